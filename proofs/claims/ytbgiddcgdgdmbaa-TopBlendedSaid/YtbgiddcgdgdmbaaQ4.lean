/- Lemmas for the proof: an abstract machine over the program's form in Lean, and the program's functions walked on it. -/
import Derived.Test.YtbgiddcgdgdmbaaQ3
import Derived.Test.YtbgiddcgdgdmbaaProg
import Derived.KernelRfl
/- What the program's tables say of its types, read off once. -/
section
namespace AM.Try
open Go AM Go.Proofs
theorem ty1:Aa Try.prog 1=⟨.other,1,8,[.nilFunc]⟩:=by kernel_rfl
theorem ty2:Aa Try.prog 2=⟨.int .i64,1,8,[.int .i64 0]⟩:=by kernel_rfl
theorem ty3:Aa Try.prog 3=⟨.int .i64,1,8,[.int .i64 0]⟩:=by kernel_rfl
theorem ty4:Aa Try.prog 4=⟨.bool,1,1,[.bool false]⟩:=by kernel_rfl
theorem ty5:Aa Try.prog 5=⟨.int .u8,1,1,[.int .u8 0]⟩:=by kernel_rfl
theorem ty6:Aa Try.prog 6=⟨.int .u8,1,1,[.int .u8 0]⟩:=by kernel_rfl
theorem ty7:Aa Try.prog 7=⟨.struct [(0,2),(1,3),(2,4),(3,6)],4,24,[.int .i64 0,.int .i64 0,.bool false,.int .u8 0]⟩:=by kernel_rfl
theorem ty8:Aa Try.prog 8=⟨.struct [(0,2),(1,3),(2,4),(3,6)],4,24,[.int .i64 0,.int .i64 0,.bool false,.int .u8 0]⟩:=by kernel_rfl
theorem Aze:Aa Try.prog 12=⟨.int .u64,1,8,[.int .u64 0]⟩:=by kernel_rfl
theorem Az8:Aa Try.prog 15=⟨.other,1,8,[.pointer none]⟩:=by kernel_rfl
theorem Bad:Aa Try.prog 16=⟨.other,1,8,[.pointer none]⟩:=by kernel_rfl
theorem Azt:Aa Try.prog 17=⟨.other,1,8,[.pointer none]⟩:=by kernel_rfl
theorem Azq:Aa Try.prog 18=⟨.struct [(0,17)],1,8,[.pointer none]⟩:=by kernel_rfl
theorem Azj:Aa Try.prog 19=⟨.struct [(0,17)],1,8,[.pointer none]⟩:=by kernel_rfl
theorem Ayr:Aa Try.prog 20=⟨.other,1,16,[.nilIface]⟩:=by kernel_rfl
theorem Ay9:Aa Try.prog 21=⟨.int .i32,1,4,[.int .i32 0]⟩:=by kernel_rfl
theorem Bae:Aa Try.prog 22=⟨.sl 3,1,24,[.slice none 0 0]⟩:=by kernel_rfl
theorem Ayx:Aa Try.prog 23=⟨.sl 22,1,24,[.slice none 0 0]⟩:=by kernel_rfl
theorem Ay4:Aa Try.prog 24=⟨.struct [(0,22),(1,22),(2,23)],3,72,[.slice none 0 0,.slice none 0 0,.slice none 0 0]⟩:=by kernel_rfl
theorem Ayw:Aa Try.prog 25=⟨.struct [(0,22),(1,22),(2,23)],3,72,[.slice none 0 0,.slice none 0 0,.slice none 0 0]⟩:=by kernel_rfl
theorem Az7:Aa Try.prog 26=⟨.sl 36,1,24,[.slice none 0 0]⟩:=by kernel_rfl
theorem Az4:Aa Try.prog 27=⟨.struct [(0,25),(3,3),(4,26)],5,104,[.slice none 0 0,.slice none 0 0,.slice none 0 0,.int .i64 0,.slice none 0 0]⟩:=by kernel_rfl
theorem Azs:Aa Try.prog 28=⟨.struct [(0,25),(3,3),(4,26)],5,104,[.slice none 0 0,.slice none 0 0,.slice none 0 0,.int .i64 0,.slice none 0 0]⟩:=by kernel_rfl
theorem Azu:Aa Try.prog 29=⟨.other,1,8,[.nilFunc]⟩:=by kernel_rfl
theorem Ayd:Aa Try.prog 30=⟨.other,1,8,[.nilFunc]⟩:=by kernel_rfl
theorem Bax:Aa Try.prog 31=⟨.other,1,8,[.nilFunc]⟩:=by kernel_rfl
theorem Baw:Aa Try.prog 32=⟨.other,1,8,[.pointer none]⟩:=by kernel_rfl
theorem Bai:Aa Try.prog 33=⟨.struct [(0,3),(1,3)],2,16,[.int .i64 0,.int .i64 0]⟩:=by kernel_rfl
theorem Azd:Aa Try.prog 34=⟨.struct [(0,3),(1,3)],2,16,[.int .i64 0,.int .i64 0]⟩:=by kernel_rfl
theorem Azz:Aa Try.prog 35=⟨.struct [(0,3),(1,34),(3,34)],5,40,[.int .i64 0,.int .i64 0,.int .i64 0,.int .i64 0,.int .i64 0]⟩:=by kernel_rfl
theorem Bah:Aa Try.prog 36=⟨.struct [(0,3),(1,34),(3,34)],5,40,[.int .i64 0,.int .i64 0,.int .i64 0,.int .i64 0,.int .i64 0]⟩:=by kernel_rfl
theorem Azb:Aa Try.prog 37=⟨.sl 52,1,24,[.slice none 0 0]⟩:=by kernel_rfl
theorem Az3:Aa Try.prog 38=⟨.int .i64,1,8,[.int .i64 0]⟩:=by kernel_rfl
theorem Ay2:Aa Try.prog 40=⟨.other,1,8,[.nilFunc]⟩:=by kernel_rfl
theorem Azo:Aa Try.prog 41=⟨.struct [(0,22),(1,22),(2,23)],3,72,[.slice none 0 0,.slice none 0 0,.slice none 0 0]⟩:=by kernel_rfl
theorem Ay0:Aa Try.prog 42=⟨.sl 146,1,24,[.slice none 0 0]⟩:=by kernel_rfl
theorem Az1:Aa Try.prog 43=⟨.struct [(0,41),(3,3),(4,42)],5,104,[.slice none 0 0,.slice none 0 0,.slice none 0 0,.int .i64 0,.slice none 0 0]⟩:=by kernel_rfl
theorem Bac:Aa Try.prog 44=⟨.struct [(0,41),(3,3),(4,42)],5,104,[.slice none 0 0,.slice none 0 0,.slice none 0 0,.int .i64 0,.slice none 0 0]⟩:=by kernel_rfl
theorem Azy:Aa Try.prog 45=⟨.other,1,8,[.nilFunc]⟩:=by kernel_rfl
theorem Bat:Aa Try.prog 46=⟨.sl 56,1,24,[.slice none 0 0]⟩:=by kernel_rfl
theorem Baz:Aa Try.prog 47=⟨.sl 58,1,24,[.slice none 0 0]⟩:=by kernel_rfl
theorem Ayi:Aa Try.prog 48=⟨.struct [(0,46),(1,47)],2,48,[.slice none 0 0,.slice none 0 0]⟩:=by kernel_rfl
theorem Ba1:Aa Try.prog 49=⟨.struct [(0,46),(1,47)],2,48,[.slice none 0 0,.slice none 0 0]⟩:=by kernel_rfl
theorem Az2:Aa Try.prog 50=⟨.struct [(0,22),(1,22),(2,22)],3,72,[.slice none 0 0,.slice none 0 0,.slice none 0 0]⟩:=by kernel_rfl
theorem Ayz:Aa Try.prog 51=⟨.struct [(0,22),(1,22),(2,22)],3,72,[.slice none 0 0,.slice none 0 0,.slice none 0 0]⟩:=by kernel_rfl
theorem Ay7:Aa Try.prog 52=⟨.struct [(0,3),(1,3)],2,16,[.int .i64 0,.int .i64 0]⟩:=by kernel_rfl
theorem Ayo:Aa Try.prog 53=⟨.struct [(0,3),(1,3)],2,16,[.int .i64 0,.int .i64 0]⟩:=by kernel_rfl
theorem Ayq:Aa Try.prog 54=⟨.other,1,8,[.nilFunc]⟩:=by kernel_rfl
theorem Ayk:Aa Try.prog 55=⟨.struct [(0,53),(2,53),(4,3)],5,40,[.int .i64 0,.int .i64 0,.int .i64 0,.int .i64 0,.int .i64 0]⟩:=by kernel_rfl
theorem Azg:Aa Try.prog 56=⟨.struct [(0,53),(2,53),(4,3)],5,40,[.int .i64 0,.int .i64 0,.int .i64 0,.int .i64 0,.int .i64 0]⟩:=by kernel_rfl
theorem Az6:Aa Try.prog 57=⟨.struct [(0,3),(1,3),(2,3),(3,53)],5,40,[.int .i64 0,.int .i64 0,.int .i64 0,.int .i64 0,.int .i64 0]⟩:=by kernel_rfl
theorem Bap:Aa Try.prog 58=⟨.struct [(0,3),(1,3),(2,3),(3,53)],5,40,[.int .i64 0,.int .i64 0,.int .i64 0,.int .i64 0,.int .i64 0]⟩:=by kernel_rfl
theorem Az5:Aa Try.prog 60=⟨.other,1,8,[.nilFunc]⟩:=by kernel_rfl
theorem Azf:Aa Try.prog 61=⟨.sl 65,1,24,[.slice none 0 0]⟩:=by kernel_rfl
theorem Ay8:Aa Try.prog 63=⟨.other,1,8,[.nilFunc]⟩:=by kernel_rfl
theorem Ay3:Aa Try.prog 64=⟨.struct [(0,3),(1,3),(2,3)],3,24,[.int .i64 0,.int .i64 0,.int .i64 0]⟩:=by kernel_rfl
theorem Bal:Aa Try.prog 65=⟨.struct [(0,3),(1,3),(2,3)],3,24,[.int .i64 0,.int .i64 0,.int .i64 0]⟩:=by kernel_rfl
theorem Bag:Aa Try.prog 66=⟨.other,1,8,[.nilFunc]⟩:=by kernel_rfl
theorem Ayj:Aa Try.prog 68=⟨.other,1,8,[.nilFunc]⟩:=by kernel_rfl
theorem Bab:Aa Try.prog 69=⟨.other,1,8,[.nilFunc]⟩:=by kernel_rfl
theorem Ayv:Aa Try.prog 70=⟨.struct [(0,3),(1,3)],2,16,[.int .i64 0,.int .i64 0]⟩:=by kernel_rfl
theorem Bar:Aa Try.prog 71=⟨.struct [(0,3),(1,3)],2,16,[.int .i64 0,.int .i64 0]⟩:=by kernel_rfl
theorem Baq:Aa Try.prog 72=⟨.sl 71,1,24,[.slice none 0 0]⟩:=by kernel_rfl
theorem Az9:Aa Try.prog 73=⟨.sl 78,1,24,[.slice none 0 0]⟩:=by kernel_rfl
theorem Baf:Aa Try.prog 74=⟨.struct [(0,3),(1,3),(2,3),(3,3),(4,72),(5,73)],6,80,[.int .i64 0,.int .i64 0,.int .i64 0,.int .i64 0,.slice none 0 0,.slice none 0 0]⟩:=by kernel_rfl
theorem Azc:Aa Try.prog 75=⟨.struct [(0,3),(1,3),(2,3),(3,3),(4,72),(5,73)],6,80,[.int .i64 0,.int .i64 0,.int .i64 0,.int .i64 0,.slice none 0 0,.slice none 0 0]⟩:=by kernel_rfl
theorem Ay6:Aa Try.prog 76=⟨.struct [(0,3),(1,3)],2,16,[.int .i64 0,.int .i64 0]⟩:=by kernel_rfl
theorem Bas:Aa Try.prog 77=⟨.struct [(0,3),(1,3),(2,76),(4,3)],5,40,[.int .i64 0,.int .i64 0,.int .i64 0,.int .i64 0,.int .i64 0]⟩:=by kernel_rfl
theorem Bay:Aa Try.prog 78=⟨.struct [(0,3),(1,3),(2,76),(4,3)],5,40,[.int .i64 0,.int .i64 0,.int .i64 0,.int .i64 0,.int .i64 0]⟩:=by kernel_rfl
theorem Ay5:Aa Try.prog 79=⟨.other,1,8,[.nilFunc]⟩:=by kernel_rfl
theorem Azi:Aa Try.prog 80=⟨.sl 90,1,24,[.slice none 0 0]⟩:=by kernel_rfl
theorem Ayt:Aa Try.prog 82=⟨.other,1,8,[.nilFunc]⟩:=by kernel_rfl
theorem Ay1:Aa Try.prog 83=⟨.sl 173,1,24,[.slice none 0 0]⟩:=by kernel_rfl
theorem Ayg:Aa Try.prog 84=⟨.sl 175,1,24,[.slice none 0 0]⟩:=by kernel_rfl
theorem Az0:Aa Try.prog 85=⟨.struct [(0,3),(1,3),(2,3),(3,3),(4,83),(5,84)],6,80,[.int .i64 0,.int .i64 0,.int .i64 0,.int .i64 0,.slice none 0 0,.slice none 0 0]⟩:=by kernel_rfl
theorem Bao:Aa Try.prog 86=⟨.struct [(0,3),(1,3),(2,3),(3,3),(4,83),(5,84)],6,80,[.int .i64 0,.int .i64 0,.int .i64 0,.int .i64 0,.slice none 0 0,.slice none 0 0]⟩:=by kernel_rfl
theorem Bam:Aa Try.prog 87=⟨.other,1,8,[.nilFunc]⟩:=by kernel_rfl
theorem Bau:Aa Try.prog 89=⟨.other,1,8,[.nilFunc]⟩:=by kernel_rfl
theorem Azp:Aa Try.prog 90=⟨.struct [(0,3),(1,3)],2,16,[.int .i64 0,.int .i64 0]⟩:=by kernel_rfl
theorem Ayh:Aa Try.prog 91=⟨.struct [(0,3),(1,3)],2,16,[.int .i64 0,.int .i64 0]⟩:=by kernel_rfl
theorem Ayy:Aa Try.prog 92=⟨.sl 91,1,24,[.slice none 0 0]⟩:=by kernel_rfl
theorem Ayn:Aa Try.prog 93=⟨.sl 53,1,24,[.slice none 0 0]⟩:=by kernel_rfl
theorem Azm:Aa Try.prog 94=⟨.other,1,8,[.nilFunc]⟩:=by kernel_rfl
theorem Baj:Aa Try.prog 95=⟨.other,1,8,[.nilFunc]⟩:=by kernel_rfl
theorem Ayf:Aa Try.prog 96=⟨.other,1,8,[.nilFunc]⟩:=by kernel_rfl
theorem Ayc:Aa Try.prog 97=⟨.other,1,8,[.nilFunc]⟩:=by kernel_rfl
theorem Aza:Aa Try.prog 98=⟨.other,1,8,[.nilFunc]⟩:=by kernel_rfl
theorem Azk:Aa Try.prog 99=⟨.other,1,8,[.nilFunc]⟩:=by kernel_rfl
theorem Aqi:Aa Try.prog 100=⟨.other,1,8,[.nilFunc]⟩:=by kernel_rfl
theorem Awm:Aa Try.prog 101=⟨.other,1,8,[.nilFunc]⟩:=by kernel_rfl
theorem Asw:Aa Try.prog 102=⟨.other,1,8,[.nilFunc]⟩:=by kernel_rfl
theorem Aub:Aa Try.prog 103=⟨.other,1,8,[.nilFunc]⟩:=by kernel_rfl
theorem Av5:Aa Try.prog 105=⟨.other,1,8,[.nilFunc]⟩:=by kernel_rfl
theorem Ap4:Aa Try.prog 106=⟨.other,1,8,[.nilFunc]⟩:=by kernel_rfl
theorem Asi:Aa Try.prog 107=⟨.other,1,8,[.nilFunc]⟩:=by kernel_rfl
theorem As1:Aa Try.prog 108=⟨.other,1,8,[.nilFunc]⟩:=by kernel_rfl
theorem Ata:Aa Try.prog 109=⟨.other,1,8,[.nilFunc]⟩:=by kernel_rfl
theorem Aqs:Aa Try.prog 110=⟨.other,1,8,[.nilFunc]⟩:=by kernel_rfl
theorem As5:Aa Try.prog 111=⟨.struct [(0,3),(1,53),(3,53)],5,40,[.int .i64 0,.int .i64 0,.int .i64 0,.int .i64 0,.int .i64 0]⟩:=by kernel_rfl
theorem Awc:Aa Try.prog 112=⟨.struct [(0,3),(1,53),(3,53)],5,40,[.int .i64 0,.int .i64 0,.int .i64 0,.int .i64 0,.int .i64 0]⟩:=by kernel_rfl
theorem Atb:Aa Try.prog 113=⟨.sl 112,1,24,[.slice none 0 0]⟩:=by kernel_rfl
theorem Awh:Aa Try.prog 114=⟨.other,1,8,[.nilFunc]⟩:=by kernel_rfl
theorem At9:Aa Try.prog 115=⟨.sl 139,1,24,[.slice none 0 0]⟩:=by kernel_rfl
theorem Awj:Aa Try.prog 117=⟨.other,1,8,[.nilFunc]⟩:=by kernel_rfl
theorem Avz:Aa Try.prog 118=⟨.other,1,8,[.nilFunc]⟩:=by kernel_rfl
theorem Axj:Aa Try.prog 119=⟨.other,1,8,[.nilFunc]⟩:=by kernel_rfl
theorem Axe:Aa Try.prog 120=⟨.sl 129,1,24,[.slice none 0 0]⟩:=by kernel_rfl
theorem Ar7:Aa Try.prog 121=⟨.sl 132,1,24,[.slice none 0 0]⟩:=by kernel_rfl
theorem Atm:Aa Try.prog 122=⟨.struct [(0,120),(1,121)],2,48,[.slice none 0 0,.slice none 0 0]⟩:=by kernel_rfl
theorem Aqb:Aa Try.prog 123=⟨.struct [(0,120),(1,121)],2,48,[.slice none 0 0,.slice none 0 0]⟩:=by kernel_rfl
theorem Ap8:Aa Try.prog 124=⟨.struct [(0,3),(1,91),(3,91)],5,40,[.int .i64 0,.int .i64 0,.int .i64 0,.int .i64 0,.int .i64 0]⟩:=by kernel_rfl
theorem Asx:Aa Try.prog 125=⟨.struct [(0,3),(1,91),(3,91)],5,40,[.int .i64 0,.int .i64 0,.int .i64 0,.int .i64 0,.int .i64 0]⟩:=by kernel_rfl
theorem Axf:Aa Try.prog 126=⟨.other,1,8,[.nilFunc]⟩:=by kernel_rfl
theorem Aq8:Aa Try.prog 127=⟨.other,1,8,[.pointer none]⟩:=by kernel_rfl
theorem Ax9:Aa Try.prog 128=⟨.struct [(0,91),(2,91),(4,3)],5,40,[.int .i64 0,.int .i64 0,.int .i64 0,.int .i64 0,.int .i64 0]⟩:=by kernel_rfl
theorem At2:Aa Try.prog 129=⟨.struct [(0,91),(2,91),(4,3)],5,40,[.int .i64 0,.int .i64 0,.int .i64 0,.int .i64 0,.int .i64 0]⟩:=by kernel_rfl
theorem Au1:Aa Try.prog 130=⟨.other,1,8,[.pointer none]⟩:=by kernel_rfl
theorem Awz:Aa Try.prog 131=⟨.struct [(0,3),(1,3),(2,3),(3,91)],5,40,[.int .i64 0,.int .i64 0,.int .i64 0,.int .i64 0,.int .i64 0]⟩:=by kernel_rfl
theorem Aul:Aa Try.prog 132=⟨.struct [(0,3),(1,3),(2,3),(3,91)],5,40,[.int .i64 0,.int .i64 0,.int .i64 0,.int .i64 0,.int .i64 0]⟩:=by kernel_rfl
theorem Arg:Aa Try.prog 133=⟨.other,1,8,[.nilFunc]⟩:=by kernel_rfl
theorem Ap1:Aa Try.prog 134=⟨.other,1,8,[.nilFunc]⟩:=by kernel_rfl
theorem Au9:Aa Try.prog 135=⟨.other,1,8,[.nilFunc]⟩:=by kernel_rfl
theorem Asp:Aa Try.prog 136=⟨.sl 125,1,24,[.slice none 0 0]⟩:=by kernel_rfl
theorem Aw6:Aa Try.prog 137=⟨.other,1,8,[.nilFunc]⟩:=by kernel_rfl
theorem Aqq:Aa Try.prog 138=⟨.struct [(0,53),(2,53),(4,53)],6,48,[.int .i64 0,.int .i64 0,.int .i64 0,.int .i64 0,.int .i64 0,.int .i64 0]⟩:=by kernel_rfl
theorem Awl:Aa Try.prog 139=⟨.struct [(0,53),(2,53),(4,53)],6,48,[.int .i64 0,.int .i64 0,.int .i64 0,.int .i64 0,.int .i64 0,.int .i64 0]⟩:=by kernel_rfl
theorem Awu:Aa Try.prog 140=⟨.other,1,8,[.nilFunc]⟩:=by kernel_rfl
theorem Asb:Aa Try.prog 141=⟨.other,1,8,[.nilFunc]⟩:=by kernel_rfl
theorem Atn:Aa Try.prog 142=⟨.other,1,8,[.nilFunc]⟩:=by kernel_rfl
theorem Atd:Aa Try.prog 143=⟨.other,1,8,[.nilFunc]⟩:=by kernel_rfl
theorem Arh:Aa Try.prog 144=⟨.other,1,8,[.nilFunc]⟩:=by kernel_rfl
theorem Awa:Aa Try.prog 145=⟨.struct [(0,3),(1,52),(3,52)],5,40,[.int .i64 0,.int .i64 0,.int .i64 0,.int .i64 0,.int .i64 0]⟩:=by kernel_rfl
theorem Ath:Aa Try.prog 146=⟨.struct [(0,3),(1,52),(3,52)],5,40,[.int .i64 0,.int .i64 0,.int .i64 0,.int .i64 0,.int .i64 0]⟩:=by kernel_rfl
theorem Awr:Aa Try.prog 147=⟨.other,1,8,[.pointer none]⟩:=by kernel_rfl
theorem Auq:Aa Try.prog 149=⟨.other,1,8,[.nilFunc]⟩:=by kernel_rfl
theorem Ast:Aa Try.prog 150=⟨.arr 6 3,6,48,[.int .i64 0,.int .i64 0,.int .i64 0,.int .i64 0,.int .i64 0,.int .i64 0]⟩:=by kernel_rfl
theorem Avp:Aa Try.prog 151=⟨.arr 6 3,6,48,[.int .i64 0,.int .i64 0,.int .i64 0,.int .i64 0,.int .i64 0,.int .i64 0]⟩:=by kernel_rfl
theorem Aqu:Aa Try.prog 152=⟨.struct [(0,44),(5,37),(6,151),(12,151)],18,224,[.slice none 0 0,.slice none 0 0,.slice none 0 0,.int .i64 0,.slice none 0 0,.slice none 0 0,.int .i64 0,.int .i64 0,.int .i64 0,.int .i64 0,.int .i64 0,.int .i64 0,.int .i64 0,.int .i64 0,.int .i64 0,.int .i64 0,.int .i64 0,.int .i64 0]⟩:=by kernel_rfl
theorem Ass:Aa Try.prog 153=⟨.struct [(0,44),(5,37),(6,151),(12,151)],18,224,[.slice none 0 0,.slice none 0 0,.slice none 0 0,.int .i64 0,.slice none 0 0,.slice none 0 0,.int .i64 0,.int .i64 0,.int .i64 0,.int .i64 0,.int .i64 0,.int .i64 0,.int .i64 0,.int .i64 0,.int .i64 0,.int .i64 0,.int .i64 0,.int .i64 0]⟩:=by kernel_rfl
theorem Ate:Aa Try.prog 154=⟨.other,1,8,[.nilFunc]⟩:=by kernel_rfl
theorem Arz:Aa Try.prog 155=⟨.other,1,8,[.nilFunc]⟩:=by kernel_rfl
theorem Ard:Aa Try.prog 156=⟨.other,1,8,[.nilFunc]⟩:=by kernel_rfl
theorem Aw5:Aa Try.prog 157=⟨.other,1,8,[.nilFunc]⟩:=by kernel_rfl
theorem Awq:Aa Try.prog 158=⟨.struct [(0,22),(1,3)],2,32,[.slice none 0 0,.int .i64 0]⟩:=by kernel_rfl
theorem Aun:Aa Try.prog 159=⟨.struct [(0,22),(1,3)],2,32,[.slice none 0 0,.int .i64 0]⟩:=by kernel_rfl
theorem Ax1:Aa Try.prog 160=⟨.other,1,8,[.nilFunc]⟩:=by kernel_rfl
theorem Aqn:Aa Try.prog 161=⟨.other,1,8,[.nilFunc]⟩:=by kernel_rfl
theorem Aqt:Aa Try.prog 162=⟨.other,1,8,[.nilFunc]⟩:=by kernel_rfl
theorem Avm:Aa Try.prog 163=⟨.struct [(0,3),(1,3)],2,16,[.int .i64 0,.int .i64 0]⟩:=by kernel_rfl
theorem Asf:Aa Try.prog 164=⟨.struct [(0,3),(1,3)],2,16,[.int .i64 0,.int .i64 0]⟩:=by kernel_rfl
theorem Avh:Aa Try.prog 165=⟨.arr 4 164,8,64,[.int .i64 0,.int .i64 0,.int .i64 0,.int .i64 0,.int .i64 0,.int .i64 0,.int .i64 0,.int .i64 0]⟩:=by kernel_rfl
theorem Ani:Aa Try.prog 166=⟨.arr 4 164,8,64,[.int .i64 0,.int .i64 0,.int .i64 0,.int .i64 0,.int .i64 0,.int .i64 0,.int .i64 0,.int .i64 0]⟩:=by kernel_rfl
theorem Aqf:Aa Try.prog 168=⟨.other,1,8,[.pointer none]⟩:=by kernel_rfl
theorem Asa:Aa Try.prog 169=⟨.other,1,8,[.nilFunc]⟩:=by kernel_rfl
theorem Apw:Aa Try.prog 170=⟨.other,1,8,[.nilFunc]⟩:=by kernel_rfl
theorem Ary:Aa Try.prog 171=⟨.sl 164,1,24,[.slice none 0 0]⟩:=by kernel_rfl
theorem Axv:Aa Try.prog 172=⟨.other,1,8,[.nilFunc]⟩:=by kernel_rfl
theorem Ar8:Aa Try.prog 173=⟨.struct [(0,3),(1,3)],2,16,[.int .i64 0,.int .i64 0]⟩:=by kernel_rfl
theorem Axs:Aa Try.prog 174=⟨.struct [(0,3),(1,3),(2,90),(4,3)],5,40,[.int .i64 0,.int .i64 0,.int .i64 0,.int .i64 0,.int .i64 0]⟩:=by kernel_rfl
theorem Axd:Aa Try.prog 175=⟨.struct [(0,3),(1,3),(2,90),(4,3)],5,40,[.int .i64 0,.int .i64 0,.int .i64 0,.int .i64 0,.int .i64 0]⟩:=by kernel_rfl
theorem Axn:Aa Try.prog 176=⟨.other,1,8,[.nilFunc]⟩:=by kernel_rfl
theorem Awd:Aa Try.prog 177=⟨.other,1,8,[.nilFunc]⟩:=by kernel_rfl
theorem Auh:Aa Try.prog 178=⟨.other,1,8,[.nilFunc]⟩:=by kernel_rfl
theorem Axu:Aa Try.prog 179=⟨.other,1,8,[.nilFunc]⟩:=by kernel_rfl
theorem Avn:Aa Try.prog 180=⟨.arr 12 3,12,96,[.int .i64 0,.int .i64 0,.int .i64 0,.int .i64 0,.int .i64 0,.int .i64 0,.int .i64 0,.int .i64 0,.int .i64 0,.int .i64 0,.int .i64 0,.int .i64 0]⟩:=by kernel_rfl
theorem Aq4:Aa Try.prog 181=⟨.arr 12 3,12,96,[.int .i64 0,.int .i64 0,.int .i64 0,.int .i64 0,.int .i64 0,.int .i64 0,.int .i64 0,.int .i64 0,.int .i64 0,.int .i64 0,.int .i64 0,.int .i64 0]⟩:=by kernel_rfl
theorem Av9:Aa Try.prog 182=⟨.other,1,8,[.nilFunc]⟩:=by kernel_rfl
theorem Atc:Aa Try.prog 183=⟨.other,1,8,[.nilFunc]⟩:=by kernel_rfl
theorem Arx:Aa Try.prog 184=⟨.other,1,8,[.nilFunc]⟩:=by kernel_rfl
theorem Ap6:Aa Try.prog 185=⟨.other,1,8,[.nilFunc]⟩:=by kernel_rfl
theorem Awf:Aa Try.prog 186=⟨.other,1,8,[.nilFunc]⟩:=by kernel_rfl
theorem Atz:Aa Try.prog 187=⟨.other,1,8,[.nilFunc]⟩:=by kernel_rfl
theorem Auy:Aa Try.prog 188=⟨.other,1,8,[.nilFunc]⟩:=by kernel_rfl
theorem Av3:Aa Try.prog 189=⟨.other,1,8,[.nilFunc]⟩:=by kernel_rfl
theorem Atv:Aa Try.prog 190=⟨.other,1,8,[.nilFunc]⟩:=by kernel_rfl
theorem Ash:Aa Try.prog 191=⟨.other,1,8,[.nilFunc]⟩:=by kernel_rfl
theorem Ase:Aa Try.prog 192=⟨.other,1,8,[.nilFunc]⟩:=by kernel_rfl
theorem Apx:Aa Try.prog 193=⟨.other,1,8,[.nilFunc]⟩:=by kernel_rfl
theorem Aq9:Aa Try.prog 194=⟨.mp 3 4,1,8,[.map none]⟩:=by kernel_rfl
theorem Avq:Aa Try.prog 196=⟨.other,1,8,[.nilFunc]⟩:=by kernel_rfl
theorem Ark:Aa Try.prog 197=⟨.other,1,8,[.nilFunc]⟩:=by kernel_rfl
theorem Avu:Aa Try.prog 198=⟨.other,1,8,[.nilFunc]⟩:=by kernel_rfl
theorem Avl:Aa Try.prog 199=⟨.other,1,8,[.nilFunc]⟩:=by kernel_rfl
theorem Aum:Aa Try.prog 200=⟨.other,1,8,[.nilFunc]⟩:=by kernel_rfl
theorem As3:Aa Try.prog 201=⟨.other,1,8,[.nilFunc]⟩:=by kernel_rfl
theorem Awy:Aa Try.prog 202=⟨.other,1,8,[.nilFunc]⟩:=by kernel_rfl
theorem Arq:Aa Try.prog 203=⟨.struct [(0,202)],1,8,[.nilFunc]⟩:=by kernel_rfl
theorem Asl:Aa Try.prog 204=⟨.struct [(0,202)],1,8,[.nilFunc]⟩:=by kernel_rfl
theorem Av0:Aa Try.prog 205=⟨.arr 3 204,3,24,[.nilFunc,.nilFunc,.nilFunc]⟩:=by kernel_rfl
theorem Asq:Aa Try.prog 206=⟨.other,1,8,[.nilFunc]⟩:=by kernel_rfl
theorem Arm:Aa Try.prog 207=⟨.other,1,8,[.pointer none]⟩:=by kernel_rfl
theorem Aq1:Aa Try.prog 209=⟨.other,1,8,[.nilFunc]⟩:=by kernel_rfl
theorem Auj:Aa Try.prog 210=⟨.other,1,8,[.nilFunc]⟩:=by kernel_rfl
theorem Aw8:Aa Try.prog 211=⟨.other,1,8,[.nilFunc]⟩:=by kernel_rfl
theorem Awi:Aa Try.prog 212=⟨.other,1,8,[.nilFunc]⟩:=by kernel_rfl
theorem Ar6:Aa Try.prog 213=⟨.other,1,8,[.nilFunc]⟩:=by kernel_rfl
theorem Axt:Aa Try.prog 214=⟨.other,1,8,[.nilFunc]⟩:=by kernel_rfl
theorem Aw7:Aa Try.prog 215=⟨.other,1,8,[.nilFunc]⟩:=by kernel_rfl
theorem Ax6:Aa Try.prog 216=⟨.other,1,8,[.nilFunc]⟩:=by kernel_rfl
theorem At1:Aa Try.prog 217=⟨.other,1,8,[.nilFunc]⟩:=by kernel_rfl
theorem Apy:Aa Try.prog 218=⟨.other,1,8,[.pointer none]⟩:=by kernel_rfl
theorem At6:Aa Try.prog 219=⟨.other,1,8,[.nilFunc]⟩:=by kernel_rfl
theorem Ax4:Aa Try.prog 220=⟨.other,1,8,[.nilFunc]⟩:=by kernel_rfl
theorem Awo:Aa Try.prog 221=⟨.other,1,8,[.nilFunc]⟩:=by kernel_rfl
theorem Axh:Aa Try.prog 222=⟨.other,1,8,[.nilFunc]⟩:=by kernel_rfl
theorem Au3:Aa Try.prog 223=⟨.other,1,8,[.nilFunc]⟩:=by kernel_rfl
theorem Ax2:Aa Try.prog 224=⟨.struct [(0,22),(1,22),(2,22)],3,72,[.slice none 0 0,.slice none 0 0,.slice none 0 0]⟩:=by kernel_rfl
theorem Avx:Aa Try.prog 225=⟨.other,1,8,[.nilFunc]⟩:=by kernel_rfl
theorem Axc:Aa Try.prog 226=⟨.other,1,8,[.nilFunc]⟩:=by kernel_rfl
theorem Aqo:Aa Try.prog 227=⟨.other,1,8,[.nilFunc]⟩:=by kernel_rfl
theorem Aww:Aa Try.prog 228=⟨.other,1,8,[.nilFunc]⟩:=by kernel_rfl
theorem Arn:Aa Try.prog 229=⟨.other,1,8,[.nilFunc]⟩:=by kernel_rfl
theorem Ari:Aa Try.prog 230=⟨.other,1,8,[.nilFunc]⟩:=by kernel_rfl
theorem Arr:Aa Try.prog 231=⟨.arr 2 3,2,16,[.int .i64 0,.int .i64 0]⟩:=by kernel_rfl
theorem Atl:Aa Try.prog 233=⟨.other,1,8,[.nilFunc]⟩:=by kernel_rfl
theorem Ax3:Aa Try.prog 234=⟨.other,1,8,[.nilFunc]⟩:=by kernel_rfl
theorem Arc:Aa Try.prog 235=⟨.mp 256 258,1,8,[.map none]⟩:=by kernel_rfl
theorem Atp:Aa Try.prog 236=⟨.struct [(0,49),(2,235)],3,56,[.slice none 0 0,.slice none 0 0,.map none]⟩:=by kernel_rfl
theorem Avb:Aa Try.prog 237=⟨.struct [(0,49),(2,235)],3,56,[.slice none 0 0,.slice none 0 0,.map none]⟩:=by kernel_rfl
theorem At8:Aa Try.prog 238=⟨.other,1,8,[.nilFunc]⟩:=by kernel_rfl
theorem Av6:Aa Try.prog 239=⟨.other,1,8,[.nilFunc]⟩:=by kernel_rfl
theorem Auc:Aa Try.prog 240=⟨.other,1,8,[.nilFunc]⟩:=by kernel_rfl
theorem Avt:Aa Try.prog 241=⟨.other,1,8,[.nilFunc]⟩:=by kernel_rfl
theorem Avw:Aa Try.prog 242=⟨.other,1,8,[.nilFunc]⟩:=by kernel_rfl
theorem Avd:Aa Try.prog 243=⟨.other,1,8,[.nilFunc]⟩:=by kernel_rfl
theorem Asz:Aa Try.prog 244=⟨.other,1,8,[.nilFunc]⟩:=by kernel_rfl
theorem Atf:Aa Try.prog 245=⟨.other,1,8,[.nilFunc]⟩:=by kernel_rfl
theorem Ars:Aa Try.prog 247=⟨.other,1,8,[.nilFunc]⟩:=by kernel_rfl
theorem Au0:Aa Try.prog 248=⟨.other,1,8,[.nilFunc]⟩:=by kernel_rfl
theorem Auz:Aa Try.prog 249=⟨.other,1,8,[.nilFunc]⟩:=by kernel_rfl
theorem Aqy:Aa Try.prog 250=⟨.other,1,8,[.nilFunc]⟩:=by kernel_rfl
theorem Avk:Aa Try.prog 251=⟨.other,1,8,[.nilFunc]⟩:=by kernel_rfl
theorem Avf:Aa Try.prog 252=⟨.other,1,8,[.nilFunc]⟩:=by kernel_rfl
theorem Att:Aa Try.prog 253=⟨.other,1,8,[.nilFunc]⟩:=by kernel_rfl
theorem Aqh:Aa Try.prog 254=⟨.other,1,8,[.nilFunc]⟩:=by kernel_rfl
theorem Av8:Aa Try.prog 255=⟨.struct [(0,58),(5,3),(6,166)],14,112,[.int .i64 0,.int .i64 0,.int .i64 0,.int .i64 0,.int .i64 0,.int .i64 0,.int .i64 0,.int .i64 0,.int .i64 0,.int .i64 0,.int .i64 0,.int .i64 0,.int .i64 0,.int .i64 0]⟩:=by kernel_rfl
theorem Axk:Aa Try.prog 256=⟨.struct [(0,58),(5,3),(6,166)],14,112,[.int .i64 0,.int .i64 0,.int .i64 0,.int .i64 0,.int .i64 0,.int .i64 0,.int .i64 0,.int .i64 0,.int .i64 0,.int .i64 0,.int .i64 0,.int .i64 0,.int .i64 0,.int .i64 0]⟩:=by kernel_rfl
theorem Axy:Aa Try.prog 257=⟨.struct [(0,166),(8,4)],9,72,[.int .i64 0,.int .i64 0,.int .i64 0,.int .i64 0,.int .i64 0,.int .i64 0,.int .i64 0,.int .i64 0,.bool false]⟩:=by kernel_rfl
theorem Auv:Aa Try.prog 258=⟨.struct [(0,166),(8,4)],9,72,[.int .i64 0,.int .i64 0,.int .i64 0,.int .i64 0,.int .i64 0,.int .i64 0,.int .i64 0,.int .i64 0,.bool false]⟩:=by kernel_rfl
theorem Ar9:Aa Try.prog 260=⟨.other,1,8,[.nilFunc]⟩:=by kernel_rfl
theorem Auw:Aa Try.prog 261=⟨.other,1,8,[.nilFunc]⟩:=by kernel_rfl
theorem Awx:Aa Try.prog 262=⟨.other,1,8,[.nilFunc]⟩:=by kernel_rfl
theorem Awt:Aa Try.prog 263=⟨.other,1,8,[.nilFunc]⟩:=by kernel_rfl
theorem Aq5:Aa Try.prog 264=⟨.other,1,8,[.nilFunc]⟩:=by kernel_rfl
theorem Auo:Aa Try.prog 265=⟨.struct [(0,3),(1,3)],2,16,[.int .i64 0,.int .i64 0]⟩:=by kernel_rfl
theorem At7:Aa Try.prog 267=⟨.other,1,8,[.nilFunc]⟩:=by kernel_rfl
theorem Aws:Aa Try.prog 268=⟨.other,1,8,[.nilFunc]⟩:=by kernel_rfl
theorem Atx:Aa Try.prog 269=⟨.other,1,8,[.nilFunc]⟩:=by kernel_rfl
theorem Aqx:Aa Try.prog 270=⟨.other,1,8,[.nilFunc]⟩:=by kernel_rfl
theorem Ati:Aa Try.prog 271=⟨.other,1,8,[.nilFunc]⟩:=by kernel_rfl
theorem Aty:Aa Try.prog 272=⟨.other,1,8,[.nilFunc]⟩:=by kernel_rfl
theorem Aup:Aa Try.prog 273=⟨.struct [(0,272)],1,8,[.nilFunc]⟩:=by kernel_rfl
theorem Axz:Aa Try.prog 274=⟨.struct [(0,272)],1,8,[.nilFunc]⟩:=by kernel_rfl
theorem Axw:Aa Try.prog 275=⟨.arr 2 274,2,16,[.nilFunc,.nilFunc]⟩:=by kernel_rfl
theorem Ar2:Aa Try.prog 276=⟨.other,1,8,[.nilFunc]⟩:=by kernel_rfl
theorem Atk:Aa Try.prog 277=⟨.other,1,8,[.nilFunc]⟩:=by kernel_rfl
theorem As0:Aa Try.prog 278=⟨.other,1,8,[.nilFunc]⟩:=by kernel_rfl
theorem Aus:Aa Try.prog 279=⟨.other,1,8,[.pointer none]⟩:=by kernel_rfl
theorem Ap0:Aa Try.prog 280=⟨.mp 289 3,1,8,[.map none]⟩:=by kernel_rfl
theorem Ax0:Aa Try.prog 281=⟨.struct [(0,86),(6,3),(7,3),(8,280)],9,104,[.int .i64 0,.int .i64 0,.int .i64 0,.int .i64 0,.slice none 0 0,.slice none 0 0,.int .i64 0,.int .i64 0,.map none]⟩:=by kernel_rfl
theorem Ax5:Aa Try.prog 282=⟨.struct [(0,86),(6,3),(7,3),(8,280)],9,104,[.int .i64 0,.int .i64 0,.int .i64 0,.int .i64 0,.slice none 0 0,.slice none 0 0,.int .i64 0,.int .i64 0,.map none]⟩:=by kernel_rfl
theorem Aw4:Aa Try.prog 283=⟨.other,1,8,[.nilFunc]⟩:=by kernel_rfl
theorem Ats:Aa Try.prog 284=⟨.struct [(0,283)],1,8,[.nilFunc]⟩:=by kernel_rfl
theorem Avi:Aa Try.prog 285=⟨.struct [(0,283)],1,8,[.nilFunc]⟩:=by kernel_rfl
theorem Av4:Aa Try.prog 286=⟨.arr 4 285,4,32,[.nilFunc,.nilFunc,.nilFunc,.nilFunc]⟩:=by kernel_rfl
theorem Ar1:Aa Try.prog 287=⟨.other,1,8,[.nilFunc]⟩:=by kernel_rfl
theorem Avs:Aa Try.prog 288=⟨.struct [(0,175),(5,3)],6,48,[.int .i64 0,.int .i64 0,.int .i64 0,.int .i64 0,.int .i64 0,.int .i64 0]⟩:=by kernel_rfl
theorem Aw0:Aa Try.prog 289=⟨.struct [(0,175),(5,3)],6,48,[.int .i64 0,.int .i64 0,.int .i64 0,.int .i64 0,.int .i64 0,.int .i64 0]⟩:=by kernel_rfl
theorem Awe:Aa Try.prog 290=⟨.other,1,8,[.nilFunc]⟩:=by kernel_rfl
theorem Atq:Aa Try.prog 291=⟨.other,1,8,[.nilFunc]⟩:=by kernel_rfl
theorem Awp:Aa Try.prog 292=⟨.other,1,8,[.pointer none]⟩:=by kernel_rfl
theorem Au6:Aa Try.prog 293=⟨.other,1,8,[.nilFunc]⟩:=by kernel_rfl
theorem Aui:Aa Try.prog 294=⟨.other,1,8,[.nilFunc]⟩:=by kernel_rfl
theorem Ara:Aa Try.prog 295=⟨.other,1,8,[.nilFunc]⟩:=by kernel_rfl
theorem Avy:Aa Try.prog 296=⟨.other,1,8,[.nilFunc]⟩:=by kernel_rfl
theorem Asg:Aa Try.prog 297=⟨.other,1,8,[.nilFunc]⟩:=by kernel_rfl
theorem Axr:Aa Try.prog 298=⟨.other,1,8,[.nilFunc]⟩:=by kernel_rfl
theorem Auu:Aa Try.prog 299=⟨.other,1,8,[.nilFunc]⟩:=by kernel_rfl
theorem Ar4:Aa Try.prog 300=⟨.other,1,8,[.nilFunc]⟩:=by kernel_rfl
theorem Apv:Aa Try.prog 301=⟨.other,1,8,[.nilFunc]⟩:=by kernel_rfl
theorem Axx:Aa Try.prog 302=⟨.other,1,8,[.nilFunc]⟩:=by kernel_rfl
theorem Ap7:Aa Try.prog 303=⟨.other,1,8,[.nilFunc]⟩:=by kernel_rfl
theorem Ap3:Aa Try.prog 304=⟨.other,1,8,[.nilFunc]⟩:=by kernel_rfl
theorem Atj:Aa Try.prog 305=⟨.other,1,8,[.nilFunc]⟩:=by kernel_rfl
theorem Axq:Aa Try.prog 306=⟨.other,1,8,[.nilFunc]⟩:=by kernel_rfl
theorem Atr:Aa Try.prog 307=⟨.other,1,8,[.nilFunc]⟩:=by kernel_rfl
theorem As4:Aa Try.prog 308=⟨.other,1,8,[.nilFunc]⟩:=by kernel_rfl
theorem Ap5:Aa Try.prog 309=⟨.other,1,8,[.nilFunc]⟩:=by kernel_rfl
theorem Aur:Aa Try.prog 310=⟨.other,1,8,[.nilFunc]⟩:=by kernel_rfl
theorem Awk:Aa Try.prog 311=⟨.other,1,8,[.nilFunc]⟩:=by kernel_rfl
theorem Avr:Aa Try.prog 312=⟨.struct [(0,3),(1,3),(2,3)],3,24,[.int .i64 0,.int .i64 0,.int .i64 0]⟩:=by kernel_rfl
theorem As2:Aa Try.prog 313=⟨.sl 312,1,24,[.slice none 0 0]⟩:=by kernel_rfl
theorem Ar0:Aa Try.prog 315=⟨.other,1,8,[.nilFunc]⟩:=by kernel_rfl
theorem Av7:Aa Try.prog 318=⟨.arr 0 16,0,0,[]⟩:=by kernel_rfl
theorem Aru:Aa Try.prog 319=⟨.struct [(0,318)],0,0,[]⟩:=by kernel_rfl
theorem Ax8:Aa Try.prog 320=⟨.struct [(0,318)],0,0,[]⟩:=by kernel_rfl
theorem Art:Aa Try.prog 321=⟨.int .u32,1,4,[.int .u32 0]⟩:=by kernel_rfl
theorem Aq6:Aa Try.prog 322=⟨.int .u8,1,1,[.int .u8 0]⟩:=by kernel_rfl
theorem Awg:Aa Try.prog 323=⟨.int .u8,1,1,[.int .u8 0]⟩:=by kernel_rfl
theorem Aqr:Aa Try.prog 324=⟨.other,1,8,[.nilFunc]⟩:=by kernel_rfl
theorem Aql:Aa Try.prog 325=⟨.other,1,8,[.pointer none]⟩:=by kernel_rfl
theorem Asv:Aa Try.prog 326=⟨.int .i32,1,4,[.int .i32 0]⟩:=by kernel_rfl
theorem Au8:Aa Try.prog 327=⟨.int .i32,1,4,[.int .i32 0]⟩:=by kernel_rfl
theorem Ato:Aa Try.prog 328=⟨.struct [(0,12),(1,12),(2,321),(3,322),(4,5),(5,5),(6,323),(7,324),(8,325),(9,326),(10,327)],11,48,[.int .u64 0,.int .u64 0,.int .u32 0,.int .u8 0,.int .u8 0,.int .u8 0,.int .u8 0,.nilFunc,.pointer none,.int .i32 0,.int .i32 0]⟩:=by kernel_rfl
theorem Ar5:Aa Try.prog 329=⟨.struct [(0,12),(1,12),(2,321),(3,322),(4,5),(5,5),(6,323),(7,324),(8,325),(9,326),(10,327)],11,48,[.int .u64 0,.int .u64 0,.int .u32 0,.int .u8 0,.int .u8 0,.int .u8 0,.int .u8 0,.nilFunc,.pointer none,.int .i32 0,.int .i32 0]⟩:=by kernel_rfl
theorem Ap9:Aa Try.prog 330=⟨.other,1,8,[.pointer none]⟩:=by kernel_rfl
def Auk:=PLift.up (And.intro @ty1 (And.intro @ty2 (And.intro @ty3 (And.intro @ty4 (And.intro @ty5 (And.intro @ty6 (And.intro @ty7 (And.intro @ty8 (And.intro @Aze (And.intro @Az8 (And.intro @Bad (And.intro @Azt (And.intro @Azq (And.intro @Azj (And.intro @Ayr (And.intro @Ay9 (And.intro @Bae (And.intro @Ayx (And.intro @Ay4 (And.intro @Ayw (And.intro @Az7 (And.intro @Az4 (And.intro @Azs (@Azu))))))))))))))))))))))))
def Arj:=PLift.up (And.intro @Ayd (And.intro @Bax (And.intro @Baw (And.intro @Bai (And.intro @Azd (And.intro @Azz (And.intro @Bah (And.intro @Azb (And.intro @Az3 (And.intro @Ay2 (And.intro @Azo (And.intro @Ay0 (And.intro @Az1 (And.intro @Bac (And.intro @Azy (And.intro @Bat (And.intro @Baz (And.intro @Ayi (And.intro @Ba1 (And.intro @Az2 (And.intro @Ayz (And.intro @Ay7 (And.intro @Ayo (@Ayq))))))))))))))))))))))))
def Aqm:=PLift.up (And.intro @Ayk (And.intro @Azg (And.intro @Az6 (And.intro @Bap (And.intro @Az5 (And.intro @Azf (And.intro @Ay8 (And.intro @Ay3 (And.intro @Bal (And.intro @Bag (And.intro @Ayj (And.intro @Bab (And.intro @Ayv (And.intro @Bar (And.intro @Baq (And.intro @Az9 (And.intro @Baf (And.intro @Azc (And.intro @Ay6 (And.intro @Bas (And.intro @Bay (And.intro @Ay5 (And.intro @Azi (@Ayt))))))))))))))))))))))))
def Axl:=PLift.up (And.intro @Ay1 (And.intro @Ayg (And.intro @Az0 (And.intro @Bao (And.intro @Bam (And.intro @Bau (And.intro @Azp (And.intro @Ayh (And.intro @Ayy (And.intro @Ayn (And.intro @Azm (And.intro @Baj (And.intro @Ayf (And.intro @Ayc (And.intro @Aza (And.intro @Azk (And.intro @Aqi (And.intro @Awm (And.intro @Asw (And.intro @Aub (And.intro @Av5 (And.intro @Ap4 (And.intro @Asi (@As1))))))))))))))))))))))))
def Avo:=PLift.up (And.intro @Ata (And.intro @Aqs (And.intro @As5 (And.intro @Awc (And.intro @Atb (And.intro @Awh (And.intro @At9 (And.intro @Awj (And.intro @Avz (And.intro @Axj (And.intro @Axe (And.intro @Ar7 (And.intro @Atm (And.intro @Aqb (And.intro @Ap8 (And.intro @Asx (And.intro @Axf (And.intro @Aq8 (And.intro @Ax9 (And.intro @At2 (And.intro @Au1 (And.intro @Awz (And.intro @Aul (@Arg))))))))))))))))))))))))
def Ap2:=PLift.up (And.intro @Ap1 (And.intro @Au9 (And.intro @Asp (And.intro @Aw6 (And.intro @Aqq (And.intro @Awl (And.intro @Awu (And.intro @Asb (And.intro @Atn (And.intro @Atd (And.intro @Arh (And.intro @Awa (And.intro @Ath (And.intro @Awr (And.intro @Auq (And.intro @Ast (And.intro @Avp (And.intro @Aqu (And.intro @Ass (And.intro @Ate (And.intro @Arz (And.intro @Ard (And.intro @Aw5 (@Awq))))))))))))))))))))))))
def Au4:=PLift.up (And.intro @Aun (And.intro @Ax1 (And.intro @Aqn (And.intro @Aqt (And.intro @Avm (And.intro @Asf (And.intro @Avh (And.intro @Ani (And.intro @Aqf (And.intro @Asa (And.intro @Apw (And.intro @Ary (And.intro @Axv (And.intro @Ar8 (And.intro @Axs (And.intro @Axd (And.intro @Axn (And.intro @Awd (And.intro @Auh (And.intro @Axu (And.intro @Avn (And.intro @Aq4 (And.intro @Av9 (@Atc))))))))))))))))))))))))
def Avv:=PLift.up (And.intro @Arx (And.intro @Ap6 (And.intro @Awf (And.intro @Atz (And.intro @Auy (And.intro @Av3 (And.intro @Atv (And.intro @Ash (And.intro @Ase (And.intro @Apx (And.intro @Aq9 (And.intro @Avq (And.intro @Ark (And.intro @Avu (And.intro @Avl (And.intro @Aum (And.intro @As3 (And.intro @Awy (And.intro @Arq (And.intro @Asl (And.intro @Av0 (And.intro @Asq (And.intro @Arm (@Aq1))))))))))))))))))))))))
def At0:=PLift.up (And.intro @Auj (And.intro @Aw8 (And.intro @Awi (And.intro @Ar6 (And.intro @Axt (And.intro @Aw7 (And.intro @Ax6 (And.intro @At1 (And.intro @Apy (And.intro @At6 (And.intro @Ax4 (And.intro @Awo (And.intro @Axh (And.intro @Au3 (And.intro @Ax2 (And.intro @Avx (And.intro @Axc (And.intro @Aqo (And.intro @Aww (And.intro @Arn (And.intro @Ari (And.intro @Arr (And.intro @Atl (@Ax3))))))))))))))))))))))))
def Aqp:=PLift.up (And.intro @Arc (And.intro @Atp (And.intro @Avb (And.intro @At8 (And.intro @Av6 (And.intro @Auc (And.intro @Avt (And.intro @Avw (And.intro @Avd (And.intro @Asz (And.intro @Atf (And.intro @Ars (And.intro @Au0 (And.intro @Auz (And.intro @Aqy (And.intro @Avk (And.intro @Avf (And.intro @Att (And.intro @Aqh (And.intro @Av8 (And.intro @Axk (And.intro @Axy (And.intro @Auv (@Ar9))))))))))))))))))))))))
def Aoz:=PLift.up (And.intro @Auw (And.intro @Awx (And.intro @Awt (And.intro @Aq5 (And.intro @Auo (And.intro @At7 (And.intro @Aws (And.intro @Atx (And.intro @Aqx (And.intro @Ati (And.intro @Aty (And.intro @Aup (And.intro @Axz (And.intro @Axw (And.intro @Ar2 (And.intro @Atk (And.intro @As0 (And.intro @Aus (And.intro @Ap0 (And.intro @Ax0 (And.intro @Ax5 (And.intro @Aw4 (And.intro @Ats (@Avi))))))))))))))))))))))))
def Apl:=PLift.up (And.intro @Av4 (And.intro @Ar1 (And.intro @Avs (And.intro @Aw0 (And.intro @Awe (And.intro @Atq (And.intro @Awp (And.intro @Au6 (And.intro @Aui (And.intro @Ara (And.intro @Avy (And.intro @Asg (And.intro @Axr (And.intro @Auu (And.intro @Ar4 (And.intro @Apv (And.intro @Axx (And.intro @Ap7 (And.intro @Ap3 (And.intro @Atj (And.intro @Axq (And.intro @Atr (And.intro @As4 (@Ap5))))))))))))))))))))))))
def Ao6:=PLift.up (And.intro @Aur (And.intro @Awk (And.intro @Avr (And.intro @As2 (And.intro @Ar0 (And.intro @Av7 (And.intro @Aru (And.intro @Ax8 (And.intro @Art (And.intro @Aq6 (And.intro @Awg (And.intro @Aqr (And.intro @Aql (And.intro @Asv (And.intro @Au8 (And.intro @Ato (And.intro @Ar5 (@Ap9))))))))))))))))))
def Aw3:=PLift.up (And.intro Auk.down (And.intro Arj.down (And.intro Aqm.down (And.intro Axl.down (And.intro Avo.down (And.intro Ap2.down (And.intro Au4.down (And.intro Avv.down (And.intro At0.down (And.intro Aqp.down (And.intro Aoz.down (And.intro Apl.down (Ao6.down)))))))))))))
theorem amT:type_of% Aw3.down:=Aw3.down
end AM.Try
end
/- The program's tables: a cell, the strength at a point. -/
section
namespace AM.Try
open Go AM AM.Wort Go.Proofs
open Nat renaming reduceLT→sA,reduceAdd→sB,reduceMul→sC,reduceSub→sD,reduceLeDiff→sE,reduceEqDiff→sF,reduceBEq→sG
open Int renaming reduceAdd→sH,reduceSub→sI,reduceMul→sJ,reduceLT→sK,reduceLE→sL,reduceNeg→sM,reduceToNat→sN,reduceEq→sO
set_option maxRecDepth 100000
set_option maxHeartbeats 8000000
theorem Qa (n lo hi:Int):Bo Try.prog 208 [i64 n,i64 lo,i64 hi] (bl (inB n lo hi)):=by
  refine A0 (v:=[]) (q:=[]) (N:=15) (rs:=[.tmp 6]) Try.func208 rfl rfl rfl rfl rfl ?_
  refine Ad fun K1 hK1=>?_
  simp (disch:=omega) only [amL,sA,sB]
  refine hK1 _ ?_
  refine Ad fun K2 hK2=>?_
  simp (disch:=omega) only [amL,amT,sA,sF,↓reduceIte,reduceCtorEq]
  repeat' first | (refine Ck (fun h=>?_) (fun h=>?_) <;> simp (disch:=omega) only [h,amL,amT,sA,sF,↓reduceIte,reduceCtorEq]) | (refine Bp (fun h=>?_) (fun h=>?_) <;> simp (disch:=omega) only [h,amL,amT,sA,sB,sC,sD,sE,sF,sG,sH,sI,sJ,sK,sL,sM,sN,sO,↓reduceIte,reduceCtorEq])
  all_goals
   skip
   refine hK2 _ ?_
   refine Af ?_
   try simp (disch:=omega) only [amL,↓reduceIte]
   simp [inB,h]
theorem Ao2 (r:Rng) (n:Int):Bo Try.prog 212 [avR r,i64 n] (bl (Jy r n)):=by
  refine A0 (v:=[]) (q:=[]) (N:=11) (rs:=[.tmp 4]) Try.func212 rfl rfl rfl rfl rfl ?_
  refine Ad fun K1 hK1=>?_
  simp (disch:=omega) only [amL,sA,sB,↓reduceIte]
  refine hK1 _ ?_
  refine Ad fun K2 hK2=>?_
  simp (disch:=omega) only [amL,amT,sA,sF,↓reduceIte,reduceCtorEq]
  repeat' first | (refine Aw (by kernel_rfl) rfl (Qa _ _ _) (by first | exact .inl rfl | exact .inr (.inl rfl)) ?_ ; simp (disch:=omega) only [amL,sA,↓reduceIte])
  refine hK2 _ ?_
  refine Af ?_
  try simp (disch:=omega) only [amL,↓reduceIte]
  rfl
theorem Yv (r o:Rng):Bo Try.prog 190 [avR r,avR o] (bl (decide (o.lo≤o.hi)&&(Jy r o.lo&&Jy r o.hi))):=by
  refine A0 (v:=[]) (q:=[]) (N:=22) (rs:=[.tmp 4]) Try.func190 rfl rfl rfl rfl rfl ?_
  refine Ad fun K1 hK1=>?_
  simp (disch:=omega) only [amL,sA,sB,sF,↓reduceIte,reduceCtorEq]
  refine hK1 _ ?_
  refine Ad fun K2 hK2=>?_
  simp (disch:=omega) only [amL,amT,sA,sF,↓reduceIte,reduceCtorEq]
  repeat' first | (refine Ck (fun h=>?_) (fun h=>?_) <;> simp (disch:=omega) only [h,amL,amT,sA,sB,sF,↓reduceIte,reduceCtorEq]) | (refine Bp (fun h=>?_) (fun h=>?_) <;> simp (disch:=omega) only [h,amL,amT,sA,sB,sF,↓reduceIte,reduceCtorEq]) | (refine Aw (by kernel_rfl) rfl (Ao2 _ _) (by first | exact .inl rfl | exact .inr (.inl rfl)) ?_ ; simp (disch:=omega) only [amL,sA,sF,↓reduceIte])
  all_goals
   skip
   refine hK2 _ ?_
   refine Af ?_
   try simp (disch:=omega) only [amL,↓reduceIte]
   all_goals first | (simp_all; done) | (simp_all; intros; omega)
theorem Adf (l:List Int) (hl:0 < l.length) (hl2:l.length < 1000000):Bo Try.prog 189 [isl l] (avR ⟨l.getD 0 0,G6 l⟩):=by
  refine A0 (v:=[]) (q:=[]) (N:=13) (rs:=[.cell 2 265]) Try.func189 rfl rfl rfl rfl rfl ?_
  have e:((l.length:Int) - 1).toNat=l.length - 1:=by omega
  refine Ad fun K1 hK1=>?_
  simp (disch:=omega) only [amL,amT,sA,sB,↓reduceIte]
  refine hK1 _ ?_
  refine Ab fun K2 hK2=>?_
  refine Bx (by kernel_rfl) (by kernel_rfl) ?_
  simp (disch:=omega) only [A8,amL,amT,sA,sB,sE,sF,sL,sN,↓reduceIte,reduceCtorEq]
  refine hK2 _ ?_
  refine Af ?_
  try simp (disch:=omega) only [amL,amT,sB,sF,↓reduceIte]
  all_goals first | (simp only [G6,e]; done) | trace_state
theorem Aec {l:List Int} {n:Int} {k:Nat} (hc:Hq l n k (l.length - k)=Bt l n) (h:¬ (k+2 < l.length∧l.getD (k+1) 0≤n)):Bt l n=k:=by
  rw [← hc]
  cases l.length - k with
  | zero=>rfl
  | succ f=>unfold Hq; rw [if_neg h]
theorem Aeh {l:List Int} {n:Int} {k:Nat} (hc:Hq l n k (l.length - k)=Bt l n) (h1:k+2 < l.length) (h2:l.getD (k+1) 0≤n):Hq l n (k+1) (l.length - (k+1))=Bt l n:=by
  rw [← hc,show l.length - k=(l.length - (k+1))+1 by omega]
  conv=>rhs; unfold Hq
  rw [if_pos ⟨h1,h2⟩]
theorem Ajb (l:List Int) (n:Int) (hl:2≤l.length) (hl2:l.length < 1000000):Bo Try.prog 219 [isl l,i64 n] (i64 (Bt l n:Nat)):=by
  refine A0 (v:=[]) (q:=[]) (N:=23) (rs:=[.tmp 4]) Try.func219 rfl rfl rfl rfl rfl ?_
  refine Ad fun K1 hK1=>?_
  simp (disch:=omega) only [amL,sA,sB]
  refine hK1 _ ?_
  refine Ad fun K2 hK2=>?_
  simp (disch:=omega) only [amL,sA]
  refine hK2 _ ?_
  refine Ab fun K3 hK3=>?_
  refine Aj ?_
  skip
  refine Bh (α:=Nat) (fun k=>⟨T [(0,isl l),(1,i64 n),(5,i64 (k:Int))],O []⟩) (fun k=>l.length - k) (fun k=>k+2≤l.length∧Hq l n k (l.length - k)=Bt l n) 0 ?_ ?_ (fun k hx4 K4 hK4=>?_)
  · exact ⟨by omega,rfl⟩
  · refine C2 ?_ ?_ ?_ ?_ <;> (try simp (disch:=omega) only [amL,sF,↓reduceIte,reduceCtorEq]); all_goals first | rfl | trace_state
  obtain ⟨hk,hc⟩:=hx4
  refine Ab fun K5 hK5=>?_
  refine Ad fun K6 hK6=>?_
  simp (disch:=omega) only [amL,amT,sA,sF,↓reduceIte,reduceCtorEq]
  repeat' first | (refine Ck (fun h=>?_) (fun h=>?_) <;> simp (disch:=omega) only [h,A8,amL,amT,sA,sF,↓reduceIte,reduceCtorEq]) | (refine Bp (fun h=>?_) (fun h=>?_) <;> simp (disch:=omega) only [h,A8,amL,amT,sA,sB,sC,sD,sE,sF,sG,sH,sI,sJ,sK,sL,sM,sN,sO,↓reduceIte,reduceCtorEq])
  all_goals
   skip
   refine hK6 _ ?_
   refine Ai rfl (fun h=>MT.x ?_) (fun h=>ME.x ?_)
   all_goals
    first
    |refine MT.mk ?_
     first
     |exact Bool.noConfusion h
     |skip
      try simp only [nrm] at h
      refine Am ?_
      refine hK5 _ ?_
    |refine ME.mk ?_
     first
     |exact Bool.noConfusion h
     |skip
      try simp only [nrm] at h
      refine B2 ?_
      refine hK3 _ ?_
      refine Ad fun K7 hK7=>?_
      simp (disch:=omega) only [amL,sA,sF,↓reduceIte,reduceCtorEq]
      refine hK7 _ ?_
      refine Af ?_
      try simp (disch:=omega) only [amL,↓reduceIte]
      all_goals first | (refine congrArg (fun (x:Nat)=>i64 (x:Int)) (Aec hc ?_).symm ; rintro ⟨q1,q2⟩ ; first | omega | (simp_all; done) | (simp_all; omega)) | (omega)
   all_goals
    skip
    refine Aj ?_
    refine Ak ?_
    simp (disch:=omega) only [amL,amT,sA,sF,↓reduceIte,reduceCtorEq]
    refine hK4 (k+1) _ ?_ ?_ (C2 ?_ ?_ ?_ ?_)
    all_goals (try simp (disch:=omega) only [amL,sF,↓reduceIte,reduceCtorEq])
    all_goals first | omega | exact ⟨by omega,Aeh hc (by omega) (by first | omega | simp_all)⟩ | trace_state
theorem Aic {l:List (Int × Int × Int)} {t:Tbl} {k:Nat} (h:k < l.length):Jq t (l.take (k+1))=Jq t (l.take k)+Pz t (l.getD k default) * (l.getD k default).2.2:=by
  rw [← List.take_append_getElem h,Qw,List.getElem_eq_getD default]
  simp [Jq]
theorem Azh (t:Tbl) (warmth B4:Int) (ht:G5 t) (hp:Agn t warmth B4):Bo Try.prog 214 [avQ t,i64 warmth,i64 B4] (i64 (atX t warmth B4)):=by
  obtain ⟨c1,c2,c3,c4,c5,c6,c7,c8,c9,d1,d2,d3⟩:=Ahf ht hp
  have nw:=ht.nw
  have nm:=ht.nm
  have nv:=ht.nv
  have hA:=Ajk ht hp
  unfold atX at hA ⊢
  dsimp only at hA ⊢
  have hq:=Adb (t:=t) (wide:=t.w.getD (Bt t.w warmth+1) 0 - t.w.getD (Bt t.w warmth) 0) (long:=t.m.getD (Bt t.m B4+1) 0 - t.m.getD (Bt t.m B4) 0) (w:=warmth - t.w.getD (Bt t.w warmth) 0) (m:=B4 - t.m.getD (Bt t.m B4) 0) c1 c2 (by omega) (by omega) (by omega) (by omega) (by omega) (by omega)
  have hs:=Zq ht (wide:=t.w.getD (Bt t.w warmth+1) 0 - t.w.getD (Bt t.w warmth) 0) (long:=t.m.getD (Bt t.m B4+1) 0 - t.m.getD (Bt t.m B4) 0) (w:=warmth - t.w.getD (Bt t.w warmth) 0) (m:=B4 - t.m.getD (Bt t.m B4) 0) c1 c2 (by omega) (by omega) (by omega) (by omega) (by omega) (by omega)
  revert hA hq hs c1 c2 c3 c4 c5 c6 c7 c8 c9 d1 d2 d3
  obtain ⟨I,hI⟩:∃ x,x=Bt t.w warmth:=⟨_,rfl⟩
  obtain ⟨K,hK⟩:∃ x,x=Bt t.m B4:=⟨_,rfl⟩
  obtain ⟨W0,hW0⟩:∃ x,x=t.w.getD I 0:=⟨_,rfl⟩
  obtain ⟨W1,hW1⟩:∃ x,x=t.w.getD (I+1) 0:=⟨_,rfl⟩
  obtain ⟨M0,hM0⟩:∃ x,x=t.m.getD K 0:=⟨_,rfl⟩
  obtain ⟨M1,hM1⟩:∃ x,x=t.m.getD (K+1) 0:=⟨_,rfl⟩
  rw [← hI,← hK,← hW0,← hW1,← hM0,← hM1]
  intro c1 c2 c3 c4 c5 c6 c7 c8 c9 d1 d2 d3 hA hq hs
  have b1:=Eu (a:=W1 - W0 - (warmth - W0)) (b:=M1 - M0 - (B4 - M0)) (A:=40) (B:=60) (by omega) (by omega) (by omega) (by omega)
  have b2:=Eu (a:=warmth - W0) (b:=M1 - M0 - (B4 - M0)) (A:=40) (B:=60) (by omega) (by omega) (by omega) (by omega)
  have b3:=Eu (a:=W1 - W0 - (warmth - W0)) (b:=B4 - M0) (A:=40) (B:=60) (by omega) (by omega) (by omega) (by omega)
  have b4:=Eu (a:=warmth - W0) (b:=B4 - M0) (A:=40) (B:=60) (by omega) (by omega) (by omega) (by omega)
  have b5:=Eu (a:=W1 - W0) (b:=M1 - M0) (A:=40) (B:=60) (by omega) (by omega) (by omega) (by omega)
  have b6:0 < (W1 - W0) * (M1 - M0):=Int.mul_pos (by omega) (by omega)
  have b7:2 * (W1 - W0) * (M1 - M0)=2 * ((W1 - W0) * (M1 - M0)):=Int.mul_assoc _ _ _
  have w1:IntKind.i64.wrap ((W1 - W0 - (warmth - W0)) * (M1 - M0 - (B4 - M0)))=_:=Dk (by omega) (by omega)
  have w2:IntKind.i64.wrap ((warmth - W0) * (M1 - M0 - (B4 - M0)))=_:=Dk (by omega) (by omega)
  have w3:IntKind.i64.wrap ((W1 - W0 - (warmth - W0)) * (B4 - M0))=_:=Dk (by omega) (by omega)
  have w4:IntKind.i64.wrap ((warmth - W0) * (B4 - M0))=_:=Dk (by omega) (by omega)
  have w5:IntKind.i64.wrap ((W1 - W0) * (M1 - M0))=_:=Dk (by omega) (by omega)
  have w6:IntKind.i64.wrap (2 * (W1 - W0) * (M1 - M0))=_:=Dk (by omega) (by omega)
  have tI:((I:Int)+1).toNat=I+1:=by omega
  have hq4:(H8 I K (W1 - W0) (M1 - M0) (warmth - W0) (B4 - M0)).length=4:=rfl
  have tK:((K:Int)+1).toNat=K+1:=by omega
  refine A0 (v:=[]) (q:=[]) (N:=131) (rs:=[.tmp 6]) Try.func214 rfl rfl rfl rfl rfl ?_
  refine Ad fun K1 hK1=>?_
  simp (disch:=omega) only [amL,sA,sB,↓reduceIte]
  refine hK1 _ ?_
  refine Ab fun K2 hK2=>?_
  refine Bx (by kernel_rfl) (by kernel_rfl) ?_
  simp (disch:=omega) only [amL,amT,sA,sF,↓reduceIte,reduceCtorEq]
  repeat' first | (refine Aw (by kernel_rfl) rfl (by first | exact Ajb t.w warmth nw.1 (by omega) | exact Ajb t.m B4 nm.1 (by omega)) (by first | exact .inl rfl | exact .inr (.inl rfl)) ?_ ; simp (disch:=omega) only [← hI,← hK,amL,amT,sA,sF,↓reduceIte,reduceCtorEq])
  refine hK2 _ ?_
  refine Ab fun K3 hK3=>?_
  refine Bx (by kernel_rfl) (by kernel_rfl) ?_
  simp (disch:=omega) only [A8,← hW0,← hM0,amL,amT,sA,sF,↓reduceIte,reduceCtorEq]
  refine hK3 _ ?_
  refine Ab fun K4 hK4=>?_
  refine Bx (by kernel_rfl) (by kernel_rfl) ?_
  simp (disch:=omega) only [tI,tK,A8,← hW0,← hW1,← hM0,← hM1,amL,amT,sA,sF,↓reduceIte,reduceCtorEq]
  refine hK4 _ ?_
  refine Ad fun K5 hK5=>?_
  simp (disch:=omega) only [amL,sA]
  refine hK5 _ ?_
  refine Ab fun K6 hK6=>?_
  refine Ab fun K7 hK7=>?_
  refine Aje 36 ?_
  simp (disch:=omega) only [Ac8,Ac7,Xt,Nz,Jl,w1,w2,w3,w4,amL,amT,sA,sB,sC,sE,sF,sH,↓reduceIte,reduceCtorEq]
  refine hK7 _ ?_
  refine Aj ?_
  skip
  refine Bh (α:=Nat) (fun k=>⟨T [(3,.ptr 3 0),(7,i64 (I:Int)),(8,i64 (K:Int)),(11,i64 (W1 - W0)),(12,i64 (M1 - M0)),(13,i64 (Jq t ((H8 I K (W1 - W0) (M1 - M0) (warmth - W0) (B4 - M0)).take k))),(98,.p (.sl ((H8 I K (W1 - W0) (M1 - M0) (warmth - W0) (B4 - M0)).map Aou))),(99,i64 4),(100,i64 (k:Int))],O [(3,.cells (cQ t))]⟩) (fun k=>4 - k) (fun k=>k≤4) 0 ?_ ?_ (fun k hx8 K8 hK8=>?_)
  · simp
  · refine C2 ?_ ?_ ?_ ?_ <;> (try simp (disch:=omega) only [amL,sF,↓reduceIte]); all_goals first | rfl | exact ⟨rfl,rfl⟩ | trace_state
  have hk:=hx8
  refine Ad fun K9 hK9=>?_
  simp (disch:=omega) only [amL,amT,sA,sF,↓reduceIte]
  refine hK9 _ ?_
  refine Ab fun K10 hK10=>?_
  refine Ai rfl (fun h=>MT.x ?_) (fun h=>ME.x ?_)
  all_goals
   first
   |refine MT.mk ?_
    first
    |exact Bool.noConfusion h
    |skip
     try simp only [nrm] at h
     refine Am ?_
     refine hK10 _ ?_
   |refine ME.mk ?_
    first
    |exact Bool.noConfusion h
    |skip
     try simp only [nrm] at h
     refine B2 ?_
     refine hK6 _ ?_
     refine Ad fun K11 hK11=>?_
     obtain rfl:k=4:=by omega
     have htk:(H8 I K (W1 - W0) (M1 - M0) (warmth - W0) (B4 - M0)).take 4=H8 I K (W1 - W0) (M1 - M0) (warmth - W0) (B4 - M0):=rfl
     have hdv:(2 * Jq t (H8 I K (W1 - W0) (M1 - M0) (warmth - W0) (B4 - M0))+(W1 - W0) * (M1 - M0)).tdiv (2 * (W1 - W0) * (M1 - M0))=_:=Int.tdiv_eq_ediv_of_nonneg (by omega)
     have wd:IntKind.i64.wrap ((2 * Jq t (H8 I K (W1 - W0) (M1 - M0) (warmth - W0) (B4 - M0))+(W1 - W0) * (M1 - M0)) / (2 * (W1 - W0) * (M1 - M0)))=_:=Dk (by omega) (by omega)
     simp (disch:=omega) only [htk,hdv,wd,w5,w6,amL,amT,sA,sF,sH,sK,↓reduceIte]
     refine hK11 _ ?_
     refine Af ?_
     try simp (disch:=omega) only [amL,↓reduceIte]
     all_goals first | rfl | trace_state
  all_goals
   skip
   refine Ab fun K12 hK12=>?_
   refine Aj ?_
   refine Ad fun K13 hK13=>?_
   simp (disch:=omega) only [Af4,amL,amT,sA,sB,sF,↓reduceIte]
   refine hK13 _ ?_
   refine Bx (by kernel_rfl) (by kernel_rfl) ?_
   have hk4:k < (H8 I K (W1 - W0) (M1 - M0) (warmth - W0) (B4 - M0)).length:=by show k < 4; omega
   obtain ⟨p,hpe⟩:∃ p,p=(H8 I K (W1 - W0) (M1 - M0) (warmth - W0) (B4 - M0)).getD k default:=⟨_,rfl⟩
   have hpo:Sy t p:=hq p (by rw [hpe,← List.getElem_eq_getD (h:=hk4)]; exact List.getElem_mem _)
   have hpm:=X9 ht hpo
   have hrow:=(ht.row (i:=p.1.toNat) (by have:=hpo.1; omega)).1
   have htk:=Aic (t:=t) hk4
   rw [← hpe] at htk
   have hsb:=Tj ht ((H8 I K (W1 - W0) (M1 - M0) (warmth - W0) (B4 - M0)).take k) (fun q hq2=>hq q (List.mem_of_mem_take hq2))
   have hln:(((H8 I K (W1 - W0) (M1 - M0) (warmth - W0) (B4 - M0)).take k).length:Int)≤4:=by rw [List.length_take]; show ((min k 4:Nat):Int)≤4; omega
   obtain ⟨⟨p1,p2⟩,⟨p3,p4⟩,p5,p6⟩:=hpo
   have wv:IntKind.i64.wrap ((t.v.getD p.1.toNat []).getD p.2.1.toNat 0 * p.2.2)=Pz t p * p.2.2:=Dk (by show _≤Pz t p * p.2.2; omega) (by show Pz t p * p.2.2 < _; omega)
   simp (disch:=omega) only [← hpe,wv,hrow,A8,F8,amL,amT,sA,sF,↓reduceIte,reduceCtorEq]
   refine hK12 _ ?_
   refine Ak ?_
   simp (disch:=omega) only [amL,amT,sA,sF,↓reduceIte]
   refine hK8 (k+1) _ ?_ ?_ (C2 ?_ ?_ ?_ ?_)
   all_goals (try simp (disch:=omega) only [amL,sE,sF,↓reduceIte])
   all_goals first | omega | exact congrArg i64 htk.symm | trace_state
theorem Aoa:ElT Try.prog 22 3 i64 P0:=Ac1 (P:=Try.prog) (tS:=22) (tE:=3) (f:=fun n=>iv n) (by simp only [amT]) (by simp only [amT]; rfl) (by simp only [amT])
theorem elI:ElT Try.prog 23 22 isl Aeg:=Ac1 (P:=Try.prog) (tS:=23) (tE:=22) (f:=fun (l:List Int)=>.sl (l.map P0)) (by simp only [amT]) (by simp only [amT]; rfl) (by simp only [amT])
theorem An8:Jn Try.prog 22 3 162 3 4 193 159:=⟨⟨_,Try.func193,rfl,rfl,rfl,by kernel_rfl⟩,⟨_,Try.func159,rfl,rfl,rfl,by kernel_rfl⟩⟩
theorem sfI:Jn Try.prog 23 22 156 3 4 218 209:=⟨⟨_,Try.func218,rfl,rfl,rfl,by kernel_rfl⟩,⟨_,Try.func209,rfl,rfl,rfl,by kernel_rfl⟩⟩
theorem Aqv : Qv Try.prog "table.go:27" "table.go:28" 22 3 162 4 159 217 205 := ⟨⟨_, Try.func217, rfl, rfl, rfl, by kernel_rfl⟩, ⟨_, Try.func205, rfl, rfl, rfl, by kernel_rfl⟩⟩
theorem afI : Qv Try.prog "table.go:27" "table.go:28" 23 22 156 4 209 210 186 := ⟨⟨_, Try.func210, rfl, rfl, rfl, by kernel_rfl⟩, ⟨_, Try.func186, rfl, rfl, rfl, by kernel_rfl⟩⟩
theorem Agr (n:Int):Bo Try.prog 206 [i64 n] (bl (inB n 0 2000)):=by
  refine A0 (v:=[]) (q:=[]) (N:=5) (rs:=[.tmp 2]) Try.func206 rfl rfl rfl rfl rfl ?_
  refine Ad fun K1 hK1=>?_
  simp (disch:=omega) only [amL,sA]
  refine hK1 _ ?_
  refine Ad fun K2 hK2=>?_
  simp (disch:=omega) only [amL,sA,↓reduceIte,reduceCtorEq]
  repeat' first | (refine Aw (by kernel_rfl) rfl (Qa _ _ _) (by first | exact .inl rfl | exact .inr (.inl rfl)) ?_ ; simp (disch:=omega) only [amL,sA,↓reduceIte])
  refine hK2 _ ?_
  refine Af ?_
  try simp (disch:=omega) only [amL,↓reduceIte]
  all_goals rfl
theorem Aos (l:List Int) (hl:l.length < 1000000) {os:Nat→Option AO} {bd:Nat}:Bs Try.prog bd (.fn (.func 205) [] []) [isl l,.fn (.func 206) [] []] os fun res os'=>res=bl (l.all fun x=>inB x 0 2000)∧os'=os:=
  Ait Aoa An8 Aqv (by simp only [amT]; rfl) (by kernel_rfl) rfl (fun x _=>Agr x) hl
theorem Anm (t:Tbl) (l:List Int) (_:t.m.length < 1000000) (hl:l.length < 1000000):Bo Try.prog 184 [avQ t,isl l] (bl (Na t.m.length l)):=by
  refine A0 (v:=[205]) (q:=[]) (N:=15) (rs:=[.tmp 4]) Try.func184 rfl rfl rfl rfl rfl ?_
  refine Ad fun K1 hK1=>?_
  simp (disch:=omega) only [amL,sA,sB,↓reduceIte]
  refine hK1 _ ?_
  refine Ad fun K2 hK2=>?_
  simp (disch:=omega) only [amL,amT,sA,sF,↓reduceIte,reduceCtorEq]
  repeat' first | (refine Ck (fun h=>?_) (fun h=>?_) <;> simp (disch:=omega) only [h,amL,sA,sF,↓reduceIte,reduceCtorEq]) | (refine Bp (fun h=>?_) (fun h=>?_) <;> simp (disch:=omega) only [h,amL,amT,sA,sB,sC,sD,sE,sF,sG,sH,sI,sJ,sK,sL,sM,sN,sO,↓reduceIte,reduceCtorEq]) | (refine Ca (bd:=15) (by decide) (Aos l hl) (Gg rfl) (by decide) rfl ?_ ; simp (disch:=omega) only [amL,sA,sF,↓reduceIte])
  all_goals
   skip
   refine hK2 _ ?_
   refine Af ?_
   try simp (disch:=omega) only [amL,↓reduceIte]
   all_goals first | (simp_all [Na]; done) | trace_state
theorem Ahk (t:Tbl) (h1:t.m.length < 1000000) (l:List (List Int)) (hr:∀ r ∈ l,r.length < 1000000) (hl:l.length < 1000000) {os:Nat→Option AO} {bd:Nat}:Bs Try.prog bd (.fn (.func 186) [] []) [.p (slI l),.fn (.func 184) [avQ t] []] os fun res os'=>res=bl (l.all (Na t.m.length))∧os'=os:=
  Ait elI sfI afI (by simp only [amT]; rfl) (by kernel_rfl) rfl (fun x hx=>Anm t x h1 (hr x hx)) hl
theorem Ann {last n most:Int} {nl nm:Nat} {os:Nat→Option AO} {bd:Nat} (hn:os nl=some (.cells [i64 last])) (hm:os nm=some (.cells [i64 most])) :
    Bs Try.prog bd (.fn (.func 207) [] [.ptr nl 0,.ptr nm 0]) [i64 n] os fun res os'=>res=bl (Mz most last n).2∧os'=upd os nl (some (.cells [i64 n])):=by
  refine B9 (v:=[]) (q:=[]) (N:=13) (rs:=[.tmp 4]) Try.func207 rfl (by kernel_rfl) rfl rfl (fun hcl hfree=>?_)
  refine Ad fun K1 hK1=>?_
  simp (disch:=omega) only [amL,sA,sB]
  refine hK1 _ ?_
  refine Ad fun K2 hK2=>?_
  simp (disch:=omega) only [hn,hm,amL,amT,sA,sF,↓reduceIte,reduceCtorEq]
  repeat' first | (refine Aw (by kernel_rfl) rfl (Qa _ _ _) (by first | exact .inl rfl | exact .inr (.inl rfl)) ?_ ; simp (disch:=omega) only [amL,sA,↓reduceIte])
  refine hK2 _ ?_
  refine Ad fun K3 hK3=>?_
  simp (disch:=omega) only [hn,amL,amT,sA,sF,↓reduceIte,reduceCtorEq]
  refine hK3 _ ?_
  refine Ad fun K4 hK4=>?_
  simp (disch:=omega) only [amL,sA,sF,↓reduceIte]
  refine hK4 _ ?_
  refine Af ?_
  try simp (disch:=omega) only [amL]
  refine Bj (res:=bl _) (upd os nl (some (.cells [i64 n]))) (by simp (disch:=omega) only [amL,↓reduceIte]; try rfl) (Sub.refl _) (Ce hcl (by rw [Dh,Bv,Cc]; exact ⟨AV.lives_p _ _,trivial⟩)) (AV.lives_p _ _) ⟨rfl,rfl⟩
theorem An5 {l:List Int} {most:Int} {nl nm:Nat} (hne:nm≠nl):Gq Try.prog (.fn (.func 207) [] [.ptr nl 0,.ptr nm 0]) (fun n=>n=nl∨n=nm) i64 l (fun last os=>os nl=some (.cells [i64 last])∧os nm=some (.cells [i64 most])) (Mz most) where
  live s os h:=by rw [Ex,Cc,Bv,Bv,Cc,Cj,Cj,h.1,h.2]; exact ⟨trivial,rfl,rfl,trivial⟩
  stable s os os' h h2:=⟨(h2 nl (.inl rfl)).trans h.1,(h2 nm (.inr rfl)).trans h.2⟩
  foot s os n h hn:=by
    rcases hn with rfl | rfl
    · exact ⟨_,h.1,fun m hm=>by simp [AO.clean,AV.clean,AV.clean.cleanL] at hm⟩
    · exact ⟨_,h.2,fun m hm=>by simp [AO.clean,AV.clean,AV.clean.cleanL] at hm⟩
  call s x os bd _ h _:=by
    refine Bs.mono (Ann h.1 h.2) ?_
    rintro r os' ⟨rfl,rfl⟩
    exact ⟨rfl,⟨Ay,by rw [Ac hne]; exact h.2⟩,fun n hn=>Ac (fun e=>hn (.inl e))⟩
theorem Aot {l:List Int} {most:Int} {nl nm:Nat} {os:Nat→Option AO} {bd:Nat} (hl:l.length < 1000000) (hm:most≤1000) (hm0:-1≤most) (hne:nm≠nl) (h:os nl=some (.cells [i64 (-1)])) (h2:os nm=some (.cells [i64 most])) :
    Bs Try.prog bd (.fn (.func 205) [] []) [isl l,.fn (.func 207) [] [.ptr nl 0,.ptr nm 0]] os fun res os'=>res=bl (Cz most (-1) l)∧((∃ z,os' nl=some (.cells [i64 z]))∧os' nm=some (.cells [i64 most]))∧∀ n,¬ (n=nl∨n=nm)→os' n=os n:=by
  refine Bs.mono (Tb Aoa An8 Aqv (by simp only [amT]; rfl) hl (An5 (most:=most) hne) (fun m hm=>?_) (s:=-1) (bd:=bd) ⟨h,h2⟩) ?_
  · by_cases e:m=nl
    · exact .inl e
    · by_cases e2:m=nm
      · exact .inr e2
      · exfalso
        simp [AV.clean,AV.clean.cleanL] at hm
        omega
  · rintro r os' ⟨h1,⟨h2,h3⟩,h4⟩
    exact ⟨by rw [h1,Kx hm l (-1) (by omega) hm0],⟨⟨_,h2⟩,h3⟩,h4⟩
theorem Wg (l:List Int) (most:Int) (hl:l.length < 1000000) (hm:most≤1000) (hm0:-1≤most):Bo Try.prog 185 [isl l,i64 most] (bl (decide (2≤(l.length:Int))&&Cz most (-1) l)):=by
  refine A0 (v:=[205]) (q:=[]) (N:=14) (rs:=[.tmp 4]) Try.func185 rfl rfl rfl rfl rfl ?_
  refine Ad fun K1 hK1=>?_
  simp (disch:=omega) only [amL,sA,sB,↓reduceIte,reduceCtorEq]
  refine hK1 _ ?_
  refine Ad fun K2 hK2=>?_
  simp (disch:=omega) only [amL,amT,sA,sF,sM,↓reduceIte]
  refine hK2 _ ?_
  refine Ad fun K3 hK3=>?_
  simp (disch:=omega) only [amL,amT,sA,sM,↓reduceIte,reduceCtorEq]
  repeat' first | (refine Ck (fun h=>?_) (fun h=>?_) <;> simp (disch:=omega) only [h,amL,sA,sF,sM,↓reduceIte,reduceCtorEq]) | (refine Bp (fun h=>?_) (fun h=>?_) <;> simp (disch:=omega) only [h,amL,amT,sA,sB,sC,sD,sE,sF,sG,sH,sI,sJ,sK,sL,sM,sN,sO,↓reduceIte,reduceCtorEq]) | (refine A9 [(9,bl true)] (by decide) (Aot (l:=l) (most:=most) (nl:=5) (nm:=3) (bd:=14) hl hm hm0 (by decide) rfl rfl) (Gg rfl) (by decide) (fun res os2 hR hcl2 hlv2=>?_) ; obtain ⟨rfl,⟨⟨z,hz⟩,hz2⟩,hfr2⟩:=hR ; simp (disch:=omega) only [amL,sA,sF,sM,↓reduceIte])
  all_goals
   skip
   refine hK3 _ ?_
   refine Af ?_
   try simp (disch:=omega) only [amL,sM,↓reduceIte]
   all_goals first | (simp_all; done) | (simp_all; omega) | trace_state
theorem Yx (t:Tbl) (ht:G5 t):Bo Try.prog 154 [avQ t] (i64 0):=by
  have nw:=ht.nw
  have nm:=ht.nm
  have nv:=ht.nv
  have hw:=ht.w
  have hm:=ht.m
  have hv:=ht.v
  refine A0 (v:=[186]) (q:=[]) (N:=50) (rs:=[.tmp 2]) Try.func154 rfl rfl rfl rfl rfl ?_
  refine Ad fun K1 hK1=>?_
  simp (disch:=omega) only [eq_self,amL,sA,↓reduceIte]
  refine hK1 _ ?_
  refine Ad fun K2 hK2=>?_
  simp (disch:=omega) only [eq_self,amL,amT,sA,sB,sF,↓reduceIte]
  refine hK2 _ ?_
  refine Ab fun K3 hK3=>?_
  refine Aj ?_
  refine Ad fun K4 hK4=>?_
  simp (disch:=omega) only [eq_self,amL,amT,sA,sF,↓reduceIte,reduceCtorEq]
  repeat' first | (refine Ck (fun h=>?_) (fun h=>?_) <;> simp (disch:=omega) only [h,nv,eq_self,decide_false,amL,amT,sA,sF,↓reduceIte,reduceCtorEq]) | (refine Bp (fun h=>?_) (fun h=>?_) <;> simp (disch:=omega) only [h,hw,hm,nv,ne_eq,eq_self,not_true_eq_false,decide_false,amL,amT,sA,sB,sC,sD,sE,sF,sG,sH,sI,sJ,sK,sL,sM,sN,sO,↓reduceIte,reduceCtorEq])
  all_goals
   skip
   refine hK4 _ ?_
   refine Ai rfl (fun h=>MT.x ?_) (fun h=>ME.x ?_)
   all_goals
    first
    |refine MT.mk ?_
     first
     |exact Bool.noConfusion h
     |skip
      try simp only [nrm] at h
      refine Ad fun K5 hK5=>?_
      simp (disch:=omega) only [eq_self,amL,sA]
      refine hK5 _ ?_
      refine Af ?_
      try simp (disch:=omega) only [eq_self,amL,↓reduceIte]
      all_goals first | rfl | (simp_all; done) | (simp_all; omega) | trace_state
    |refine ME.mk ?_
     first
     |exact Bool.noConfusion h
     |skip
      try simp only [nrm] at h
      refine Ad fun K6 hK6=>?_
      simp (disch:=omega) only [eq_self,amL,amT,sA,sF,sG,↓reduceIte,reduceCtorEq]
      repeat' first | (refine Ck (fun h=>?_) (fun h=>?_) <;> simp (disch:=omega) only [h,hw,hm,nv,ne_eq,eq_self,not_true_eq_false,decide_false,amL,amT,sA,sB,sC,sD,sE,sF,sG,sH,sI,sJ,sK,sL,sM,sN,sO,↓reduceIte,reduceCtorEq]) | (refine Bp (fun h=>?_) (fun h=>?_) <;> simp (disch:=omega) only [h,nv,ne_eq,eq_self,not_true_eq_false,decide_false,amL,amT,sA,sF,sG,↓reduceIte,reduceCtorEq]) | (refine Aw (by kernel_rfl) rfl (by first | exact Wg t.w 40 (by omega) (by omega) (by omega) | exact Wg t.m 60 (by omega) (by omega) (by omega)) (by first | exact .inl rfl | exact .inr (.inl rfl)) ?_ ; simp (disch:=omega) only [hw,hm,eq_self,amL,sA,sF,sM,↓reduceIte]) | (refine Ca (bd:=50) (by decide) (Ahk t (by omega) t.v (fun r hr=>by have:=List.all_eq_true.1 hv r hr; simp only [Na,Bool.and_eq_true,decide_eq_true_eq] at this; omega) (by omega)) (Gg rfl) (by decide) rfl ?_ ; simp (disch:=omega) only [eq_self,amL,sA,sF,↓reduceIte])
      all_goals
       skip
       refine hK6 _ ?_
       refine Ai rfl (fun h=>MT.x ?_) (fun h=>ME.x ?_)
       all_goals
        first
        |refine MT.mk ?_
         first
         |exact Bool.noConfusion h
         |skip
          try simp only [nrm] at h
          refine Ad fun K7 hK7=>?_
          simp (disch:=omega) only [eq_self,amL,sA]
          refine hK7 _ ?_
          refine Af ?_
          try simp (disch:=omega) only [eq_self,amL,↓reduceIte]
          all_goals first | rfl | (simp_all; done) | (simp_all; omega) | trace_state
        |refine ME.mk ?_
         first
         |exact Bool.noConfusion h
         |skip
          try simp only [nrm] at h
          refine Am ?_
          refine hK3 _ ?_
   all_goals
    skip
    refine Ad fun K8 hK8=>?_
    simp (disch:=omega) only [eq_self,amL,sA]
    refine hK8 _ ?_
    refine Af ?_
    try simp (disch:=omega) only [eq_self,amL,↓reduceIte]
    all_goals first | rfl | (simp_all; done) | (simp_all; omega) | trace_state
theorem We {a b:Int} (h:a≤b):Rk ⟨a,b⟩=a :: Rk ⟨a+1,b⟩:=by
  unfold Rk
  dsimp only
  rw [show (b+1 - a).toNat=(b+1 - (a+1)).toNat+1 by omega,List.range_succ_eq_map,List.map_cons,List.map_map]
  refine List.cons_eq_cons.2 ⟨by simp,List.map_congr_left fun j _=>?_⟩
  simp only [Function.comp,Nat.succ_eq_add_one,Int.natCast_add,Int.natCast_one]
  omega
theorem Yf {a b:Int} (h:b < a):Rk ⟨a,b⟩=[]:=by
  unfold Rk
  dsimp only
  rw [show (b+1 - a).toNat=0 by omega]; rfl
theorem Z0 {r:Rng} {x:Int}:x ∈ Rk r↔r.lo≤x∧x≤r.hi:=by
  unfold Rk
  simp only [List.mem_map,List.mem_range]
  constructor
  · rintro ⟨j,h,rfl⟩; omega
  · intro h; exact ⟨(x - r.lo).toNat,by omega,by omega⟩
def Rb (t:Tbl) (w:Rng) (mh y x:Int):List (Int × Int):=((Rk ⟨x,w.hi⟩).map fun x=>(y,atX t x y))++L3 t w ⟨y+1,mh⟩
theorem Ala {t:Tbl} {w:Rng} {mh y:Int} (h:y≤mh):L3 t w ⟨y,mh⟩=Rb t w mh y w.lo:=by
  unfold L3 Rb
  rw [We h,List.flatMap_cons]; rfl
theorem Acl {t:Tbl} {w:Rng} {mh y:Int} (h:mh < y):L3 t w ⟨y,mh⟩=[]:=by
  unfold L3
  rw [Yf h]; rfl
theorem Qk {t:Tbl} {w:Rng} {mh y x:Int} (h:x≤w.hi):Rb t w mh y x=(y,atX t x y) :: Rb t w mh y (x+1):=by
  unfold Rb
  rw [We h]; rfl
theorem Aik {t:Tbl} {w:Rng} {mh y x:Int} (h:w.hi < x):Rb t w mh y x=L3 t w ⟨y+1,mh⟩:=by
  unfold Rb
  rw [Yf h]; rfl
theorem Al0 {t:Tbl} {w m:Rng} {x y:Int} (h1:w.lo≤x∧x≤w.hi) (h2:m.lo≤y∧y≤m.hi):(y,atX t x y) ∈ L3 t w m:=
  List.mem_flatMap.2 ⟨y,Z0.2 h2,List.mem_map.2 ⟨x,Z0.2 h1,rfl⟩⟩
abbrev av2 (p:Int × Int):List AV:=[i64 p.1,i64 p.2]
theorem Aew {t:Tbl} {w m:Rng} {yv:AV} {F:Nat→Prop} {σ:Type} {go:σ→Prop} {I:σ→(Nat→Option AO)→Prop} {step:σ→Int × Int→σ × Bool} (hY:Xh Try.prog yv F av2 (L3 t w m) go I step) (ht:G5 t) (hp:∀ x y,w.lo≤x→x≤w.hi→m.lo≤y→y≤m.hi→Agn t x y)
    (hw:0≤w.lo∧w.lo≤w.hi∧w.hi≤1000) (hm:0≤m.lo∧m.lo≤m.hi∧m.hi≤1000) {nm nw nt:Nat} (f1:¬ F nm) (f2:¬ F nw) (f3:¬ F nt) {s:σ} {os:Nat→Option AO} {bd:Nat} (o1:os nm=some (.cells [i64 m.lo,i64 m.hi])) (o2:os nw=some (.cells [i64 w.lo,i64 w.hi])) (o3:os nt=some (.cells (cQ t))) (hg:go s) (hI:I s os) :
    Bs Try.prog bd (.fn (.func 213) [] [.ptr nm 0,.ptr nw 0,.ptr nt 0]) [yv] os fun res os'=>res=.tup []∧I (Dy step s (L3 t w m)).1 os'∧∀ n,¬ F n→os' n=os n:=by
  refine B9 (v:=[]) (q:=[]) (N:=31) (rs:=[]) Try.func213 rfl (by kernel_rfl) rfl rfl (fun hcl hfree=>?_)
  have hfreeI:∀ (s1:σ) os1,I s1 os1→(∀ n,¬ F n→os1 n=os n)→∀ n,bd≤n→os1 n=none:=fun s1 os1 h1 h2 n hn=>by
    by_cases hFn:F n
    · obtain ⟨o,h3,_⟩:=hY.foot s os n hI hFn
      have:=Bb hfree h3; omega
    · rw [h2 n hFn]; exact hfree n hn
  have hlvT:∀ (s1:σ) os1,I s1 os1→(∀ n,¬ F n→os1 n=os n)→AV.lives os1 yv∧(os1 nm).isSome=true∧(os1 nw).isSome=true∧(os1 nt).isSome=true:=fun s1 os1 h1 h2=>⟨hY.live _ _ h1,by rw [h2 nm f1,o1]; rfl,by rw [h2 nw f2,o2]; rfl,by rw [h2 nt f3,o3]; rfl⟩
  refine Ad fun K1 hK1=>?_
  simp (disch:=omega) only [o1,amL,amT,sA,sB,↓reduceIte,reduceCtorEq]
  refine hK1 _ ?_
  refine Aj ?_
  skip
  refine Bh (α:=Int × σ × (Nat→Option AO)) (fun q=>⟨T [(0,yv),(1,.ptr nm 0),(2,.ptr nw 0),(3,.ptr nt 0),(5,i64 q.1)],q.2.2⟩) (fun q=>(m.hi+1 - q.1).toNat) (fun q=>(m.lo≤q.1∧q.1≤m.hi+1)∧go q.2.1∧I q.2.1 q.2.2∧(Hp q.2.2).closed∧(∀ n,¬ F n→q.2.2 n=os n)∧(Dy step q.2.1 (L3 t w ⟨q.1,m.hi⟩)).1=(Dy step s (L3 t w m)).1) (m.lo,s,os) ?_ ?_ (fun q hx2 K2 hK2=>?_)
  · exact ⟨by dsimp only; omega,hg,hI,hcl,fun _ _=>rfl,rfl⟩
  · refine F5 ?_ ?_ ?_ ?_ <;> (try simp (disch:=omega) only [o1,o2,o3,amL,sF,↓reduceIte,reduceCtorEq]); all_goals first | exact hcl | exact Sub.refl _ | exact hlvT _ _ hI (fun _ _=>rfl) | exact hY.live _ _ hI | trace_state
  obtain ⟨y,s1,os1⟩:=q; dsimp only at hx2 ⊢; obtain ⟨hy,hg1,hI1,hcl1,hfr1,hal1⟩:=hx2; have p1:=(hfr1 nm f1).trans o1; have p2:=(hfr1 nw f2).trans o2; have p3:=(hfr1 nt f3).trans o3
  refine Ab fun K3 hK3=>?_
  refine Ad fun K4 hK4=>?_
  simp (disch:=omega) only [p1,amL,amT,sA,sF,↓reduceIte,reduceCtorEq]
  refine hK4 _ ?_
  refine Ai rfl (fun h=>MT.x ?_) (fun h=>ME.x ?_)
  all_goals
   first
   |refine MT.mk ?_
    first
    |exact Bool.noConfusion h
    |skip
     try simp only [nrm] at h
     refine Am ?_
     refine hK3 _ ?_
   |refine ME.mk ?_
    first
    |exact Bool.noConfusion h
    |skip
     try simp only [nrm] at h
     refine B2 ?_
     try simp (disch:=omega) only [o1,o2,o3,amL,amT,sA,sB,sC,sD,sE,sF,sG,sH,sI,sJ,sK,sL,sM,sN,sO,↓reduceIte,reduceCtorEq]
     first
       | (try simp only [Ea,Ds,reduceIte,Dn]
          refine Bj (res:=.tup []) os1 rfl (Sub.refl _) hcl1 (Bk _ rfl) ⟨rfl,?_,hfr1⟩
          rw [← hal1,Acl (by omega)]; exact hI1)
       | (try simp only [Ea,Ds,Gj,Fl,reduceIte,Dn,H6]
          refine Bj (res:=.tup []) os3 rfl (Sub.refl _) hcl3 (Bk _ rfl) ⟨rfl,?_,hfr4⟩
          rw [← hal2,Qk (x:=x) (by omega)]; simp only [Dy]; rw [if_neg (by simpa using h)]; exact hI3)
       | trace_state
  all_goals
   skip
   refine Ab fun K5 hK5=>?_
   refine Aj ?_
   refine Ad fun K6 hK6=>?_
   simp (disch:=omega) only [p2,amL,amT,sA,sF,↓reduceIte,reduceCtorEq]
   refine hK6 _ ?_
   refine Aj ?_
   skip
   refine Bh (α:=Int × σ × (Nat→Option AO)) (fun q=>⟨T [(0,yv),(1,.ptr nm 0),(2,.ptr nw 0),(3,.ptr nt 0),(5,i64 y),(6,i64 q.1)],q.2.2⟩) (fun q=>(w.hi+1 - q.1).toNat) (fun q=>(w.lo≤q.1∧q.1≤w.hi+1)∧go q.2.1∧I q.2.1 q.2.2∧(Hp q.2.2).closed∧(∀ n,¬ F n→q.2.2 n=os n)∧(Dy step q.2.1 (Rb t w m.hi y q.1)).1=(Dy step s (L3 t w m)).1) (w.lo,s1,os1) ?_ ?_ (fun q hx7 K7 hK7=>?_)
   · exact ⟨by dsimp only; omega,hg1,hI1,hcl1,hfr1,by rw [← hal1,Ala (by omega)]⟩
   · refine F5 ?_ ?_ ?_ ?_ <;> (try simp (disch:=omega) only [amL,sF,↓reduceIte,reduceCtorEq]); all_goals first | exact hcl1 | exact Sub.refl _ | exact hlvT _ _ hI1 hfr1 | trace_state
   obtain ⟨x,s2,os2⟩:=q; dsimp only at hx7 ⊢; obtain ⟨hx,hg2,hI2,hcl2,hfr2,hal2⟩:=hx7; have q1:=(hfr2 nm f1).trans o1; have q2:=(hfr2 nw f2).trans o2; have q3:=(hfr2 nt f3).trans o3
   refine Ab fun K8 hK8=>?_
   refine Ad fun K9 hK9=>?_
   simp (disch:=omega) only [q2,amL,amT,sA,sF,↓reduceIte,reduceCtorEq]
   refine hK9 _ ?_
   refine Ai rfl (fun h=>MT.x ?_) (fun h=>ME.x ?_)
   all_goals
    first
    |refine MT.mk ?_
     first
     |exact Bool.noConfusion h
     |skip
      try simp only [nrm] at h
      refine Am ?_
      refine hK8 _ ?_
    |refine ME.mk ?_
     first
     |exact Bool.noConfusion h
     |skip
      try simp only [nrm] at h
      refine B2 ?_
      refine hK5 _ ?_
      refine Ak ?_
      simp (disch:=omega) only [amL,amT,sA,sF,↓reduceIte,reduceCtorEq]
      refine hK2 (y+1,s2,os2) _ ?_ ?_ (F5 ?_ ?_ ?_ ?_)
      all_goals (try simp (disch:=omega) only [amL,sF,↓reduceIte,reduceCtorEq])
      all_goals first | omega | exact ⟨by omega,hg2,hI2,hcl2,hfr2,by rw [← hal2,Aik (by omega)]⟩ | exact Sub.refl _ | exact hcl2 | exact hlvT _ _ hI2 hfr2 | trace_state
   all_goals
    skip
    refine Ab fun K10 hK10=>?_
    refine Aj ?_
    refine Ad fun K11 hK11=>?_
    have hmem:(y,atX t x y) ∈ L3 t w m:=Al0 (by omega) (by omega)
    simp (disch:=omega) only [q3,amL,amT,sA,sB,sF,↓reduceIte,reduceCtorEq]
    repeat' first | (refine Aw (by kernel_rfl) rfl (Azh t x y ht (hp x y (by omega) (by omega) (by omega) (by omega))) (by first | exact .inl rfl | exact .inr (.inl rfl)) ?_ ; simp (disch:=omega) only [amL,sF,↓reduceIte])
    refine A9 [(0,yv),(1,.ptr nm 0),(2,.ptr nw 0),(3,.ptr nt 0),(5,i64 y),(6,i64 x)] (by decide) (hY.call s2 (y,atX t x y) os2 bd hmem hg2 hI2 hcl2) (hfreeI _ _ hI2 hfr2) (Nat.le_refl _) (fun res os3 hR hcl3 hlv3=>?_)
    obtain ⟨rfl,hI3,hfr3⟩:=hR
    have hv3:=hY.live _ _ hI3
    have hfr4:∀ n,¬ F n→os3 n=os n:=fun n hn=>(hfr3 n hn).trans (hfr2 n hn)
    simp (disch:=omega) only [amL,sF,↓reduceIte,reduceCtorEq]
    refine ⟨hlvT _ _ hI3 hfr4,?_⟩
    refine hK11 _ ?_
    refine Ai rfl (fun h=>MT.x ?_) (fun h=>ME.x ?_)
    all_goals
     first
     |refine MT.mk ?_
      first
      |exact Bool.noConfusion h
      |skip
       try simp only [nrm] at h
       refine Af ?_
       try simp (disch:=omega) only [amL]
       first
         | (try simp only [Ea,Ds,Gj,Fl,reduceIte,Dn,H6]
            refine Bj (res:=.tup []) os1 rfl (Sub.refl _) hcl1 (Bk _ rfl) ⟨rfl,?_,hfr1⟩
            rw [← hal1,Acl (by omega)]; exact hI1)
         | (try simp only [Ea,Ds,Gj,Fl,reduceIte,Dn,H6]
            refine Bj (res:=.tup []) os3 rfl (Sub.refl _) hcl3 (Bk _ rfl) ⟨rfl,?_,hfr4⟩
            rw [← hal2,Qk (x:=x) (by omega)]; simp only [Dy]; rw [if_neg (by simpa using h)]; exact hI3)
         | trace_state
     |refine ME.mk ?_
      first
      |exact Bool.noConfusion h
      |skip
       try simp only [nrm] at h
       refine Am ?_
       refine hK10 _ ?_
    all_goals
     skip
     refine Ak ?_
     simp (disch:=omega) only [amL,amT,sA,sF,↓reduceIte,reduceCtorEq]
     refine hK7 (x+1,(step s2 (y,atX t x y)).1,os3) _ ?_ ?_ (F5 ?_ ?_ ?_ ?_)
     all_goals (try simp (disch:=omega) only [amL,sF,↓reduceIte,reduceCtorEq])
     all_goals first | omega | exact ⟨by omega,hY.next _ _ hmem hg2 (by simpa using h),hI3,hcl3,hfr4,by rw [← hal2,Qk (x:=x) (by omega)]; simp only [Dy]; rw [if_pos (by simpa using h)]⟩ | exact Sub.refl _ | exact hcl3 | exact hlvT _ _ hI3 hfr4 | trace_state
theorem Amv (a b:Int):Bo Try.prog 126 [.p (.sl [[iv a],[iv b]])] (i64 (min a b)):=by
  refine A0 (v:=[]) (q:=[]) (N:=25) (rs:=[.tmp 2]) Try.func126 rfl rfl rfl rfl rfl ?_
  refine Ad fun K1 hK1=>?_
  simp (disch:=omega) only [amL,sA]
  refine hK1 _ ?_
  refine Ab fun K2 hK2=>?_
  refine Ad fun K3 hK3=>?_
  simp (disch:=omega) only [amL,amT,sA,sB,sH,sK,↓reduceIte,reduceCtorEq]
  refine hK3 _ ?_
  refine Ai rfl (fun h=>MT.x ?_) (fun h=>ME.x ?_)
  all_goals
   first
   |refine MT.mk ?_
    first
    |exact Bool.noConfusion h
    |skip
     try simp only [nrm] at h
     exfalso; omega
   |refine ME.mk ?_
    first
    |exact Bool.noConfusion h
    |skip
     try simp only [] at h
     refine Am ?_
     refine hK2 _ ?_
  all_goals
   skip
   refine Ad fun K4 hK4=>?_
   simp (disch:=omega) only [amL,amT,sA,sB,sH,sK,sL,sN,↓reduceIte,reduceCtorEq]
   refine hK4 _ ?_
   refine Ab fun K5 hK5=>?_
   refine Ad fun K6 hK6=>?_
   simp (disch:=omega) only [amL,sA]
   refine hK6 _ ?_
   refine Aj ?_
   skip
   refine Bh (α:=Nat) (fun k=>⟨T [(0,.p (.sl [[iv a],[iv b]])),(3,i64 (if k=0 then a else min a b)),(4,i64 ((k:Int)+1))],O []⟩) (fun k=>1 - k) (fun k=>k≤1) 0 ?_ ?_ (fun k hx7 K7 hK7=>?_)
   · simp
   · refine C2 ?_ ?_ ?_ ?_ <;> (try simp (disch:=omega) only [amL,sF,sH,↓reduceIte,reduceCtorEq]); all_goals rfl
   have hk:=hx7
   refine Ab fun K8 hK8=>?_
   refine Ad fun K9 hK9=>?_
   simp (disch:=omega) only [amL,amT,sA,sB,sF,sH,↓reduceIte,reduceCtorEq]
   refine hK9 _ ?_
   refine Ai rfl (fun h=>MT.x ?_) (fun h=>ME.x ?_)
   all_goals
    first
    |refine MT.mk ?_
     first
     |exact Bool.noConfusion h
     |skip
      try simp only [nrm] at h
      refine Am ?_
      refine hK8 _ ?_
    |refine ME.mk ?_
     first
     |exact Bool.noConfusion h
     |skip
      try simp only [nrm] at h
      refine B2 ?_
      refine hK5 _ ?_
      refine Ad fun K10 hK10=>?_
      simp (disch:=omega) only [amL,sA,sF,↓reduceIte,reduceCtorEq]
      refine hK10 _ ?_
      refine Af ?_
      try simp (disch:=omega) only [amL,↓reduceIte]
      all_goals first | rfl | trace_state
   all_goals
    skip
    refine Ab fun K11 hK11=>?_
    refine Aj ?_
    refine Ak ?_
    obtain rfl:k=0:=by omega
    simp (disch:=omega) only [amL,amT,sA,sB,sF,sH,sK,sL,sN,↓reduceIte,reduceCtorEq]
    refine hK11 _ ?_
    refine Ak ?_
    simp (disch:=omega) only [amL,amT,sA,sF,sH,↓reduceIte,reduceCtorEq]
    refine hK7 1 _ ?_ ?_ (C2 ?_ ?_ ?_ ?_)
    all_goals (try simp (disch:=omega) only [amL,sD,sF,sH,↓reduceIte,reduceCtorEq])
    all_goals first | omega | exact congrArg i64 (by split <;> omega) | trace_state
theorem Aap (a b:Int):Bo Try.prog 192 [.p (.sl [[iv a],[iv b]])] (i64 (min a b)):=by
  refine A0 (v:=[]) (q:=[]) (N:=5) (rs:=[.tmp 2]) Try.func192 rfl rfl rfl rfl rfl ?_
  refine Ad fun K1 hK1=>?_
  simp (disch:=omega) only [amL,sA]
  refine hK1 _ ?_
  refine Ad fun K2 hK2=>?_
  simp (disch:=omega) only [amL,sA,↓reduceIte,reduceCtorEq]
  repeat' first | (refine Aw (by kernel_rfl) rfl (Amv a b) (by first | exact .inl rfl | exact .inr (.inl rfl)) ?_ ; simp (disch:=omega) only [amL,sA,↓reduceIte])
  refine hK2 _ ?_
  refine Af ?_
  try simp (disch:=omega) only [amL,↓reduceIte]
  all_goals rfl
theorem B6 {os:Nat→Option AO} {n:Nat} {cs:List AV} (hcl:(Hp os).closed) (h:∀ x ∈ cs,x.isP=true):(Hp (upd os n (some (.cells cs)))).closed:=
  Ce hcl (AO.lives_cells.2 fun _ x hx=>Bk _ (h x (List.mem_of_getElem? hx)))
theorem Ag6 {t:Tbl} {w m:Rng} {os:Nat→Option AO} {bd:Nat} :
    Bs Try.prog bd (.fn (.func 191) [] []) [avQ t,avR w,avR m] os fun res os'=>res=.fn (.func 213) [] [.ptr (bd+5) 0,.ptr (bd+4) 0,.ptr (bd+3) 0]∧os'=upd (upd (upd os (bd+3) (some (.cells (cQ t)))) (bd+4) (some (.cells [i64 w.lo,i64 w.hi]))) (bd+5) (some (.cells [i64 m.lo,i64 m.hi])):=by
  refine B9 (v:=[]) (q:=[]) (N:=8) (rs:=[.tmp 6]) Try.func191 rfl (by kernel_rfl) rfl rfl (fun hcl hfree=>?_)
  have hfr0:∀ k,os (bd+k)=none:=fun k=>hfree _ (by omega)
  refine Ad fun K1 hK1=>?_
  simp (disch:=omega) only [hfr0,Ac,amL,sA,sB,sF,↓reduceIte,reduceCtorEq]
  refine hK1 _ ?_
  refine Ad fun K2 hK2=>?_
  simp (disch:=omega) only [amL,sA,sF,↓reduceIte]
  refine hK2 _ ?_
  refine Af ?_
  try simp (disch:=omega) only [amL]
  refine Bj (res:=.fn (.func 213) [] [.ptr (bd+5) 0,.ptr (bd+4) 0,.ptr (bd+3) 0]) (upd (upd (upd os (bd+3) (some (.cells (cQ t)))) (bd+4) (some (.cells [i64 w.lo,i64 w.hi]))) (bd+5) (some (.cells [i64 m.lo,i64 m.hi]))) (by simp (disch:=omega) only [amL,↓reduceIte]; try rfl) (Sub.refl _) (B6 (B6 (B6 hcl (by simp [AV.isP])) (by simp [AV.isP])) (by simp [AV.isP])) ?_ ⟨rfl,rfl⟩
  · rw [Ex]; simp (disch:=omega) only [Cc,Bv,Cj,Ac,Ay,Option.isSome_some,and_self]
theorem Ahz (a b:Int):(if a < b then b else a)=max a b:=by omega
abbrev tm9 (n6 n:Nat):List (Nat × AV):=[(6,.ptr n6 0),(9,.ptr n 0)]
def Abq (r:Rng) (p:Int × Int):Rng × Option Code:=(⟨min r.lo p.2,max r.hi p.2⟩,none)
theorem Ajr {L:List (Int × Int)} {n6 n bdL:Nat} (d:n < bdL) (d6:n6 < bdL) (d7:n6≠n) {A B:Code} (hcode:(Try.f157.body.bind Jh)=some (A,B)) :
    R2 Try.prog bdL ⟨51,[38,39],A,B,.ready,none⟩ (tm9 n6 n) [] [] (fun q=>q=n∨q=n6) av2 L (fun (r:Rng) os=>os n=some (.cells [i64 r.lo,i64 r.hi])∧os n6=some (.cells [i64 0,i64 0])) Abq where
  ready:=rfl
  lenp _:=rfl
  psn q hq:=by
    simp only [List.mem_cons,List.not_mem_nil,or_false] at hq
    rcases hq with rfl | rfl
    · exact (by decide:38 < 51)
    · exact (by decide:39 < 51)
  notF h:=by omega
  tmF q hq:=by
    simp [AO.clean,AV.clean,AV.clean.cleanL] at hq
    omega
  stable s o1 o2 hI he:=⟨(he n (.inl rfl)).trans hI.1,(he n6 (.inr rfl)).trans hI.2⟩
  foot s o1 q hI hq:=by
    rcases hq with rfl | rfl
    · exact ⟨_,hI.1,fun m hm=>by simp [AO.clean,AV.clean,AV.clean.cleanL] at hm⟩
    · exact ⟨_,hI.2,fun m hm=>by simp [AO.clean,AV.clean,AV.clean.cleanL] at hm⟩
  body s x o1 bd1 hx hI hl hcl1 hfree1 hb1 rl:=by
    have hfr0:∀ k,o1 (bd1+k)=none:=fun k=>hfree1 _ (by omega)
    obtain ⟨hI,hI6⟩:=hI
    have b5:=Bb hfree1 hI
    have b6:=Bb hfree1 hI6
    have hclL:∀ {os:Nat→Option AO} {kk:Gn},(Hp os).closed→(os n).isSome=true→(os n6).isSome=true→(Hp (upd os bdL (some (.loop kk (tm9 n6 n))))).closed:=fun {os kk} hc h1 h2=>Ce hc (fun q hq=>by
      have e:q=n∨q=n6:=by
        simp [AO.clean,AV.clean,AV.clean.cleanL] at hq; omega
      unfold upd
      split
      · rfl
      · rcases e with e | e <;> rw [e] <;> assumption)
    cases (show some (_,_)=some (A,B) from hcode)
    show AWP _ _ 51 _ ⟨T [(39,i64 x.2),(38,i64 x.1),(6,.ptr n6 0),(9,.ptr n 0)],o1⟩ _
    refine Ak ?_
    simp (disch:=(first | assumption | omega)) only [hl,amL,sA,↓reduceIte]
    try simp (disch:=(first | assumption | omega)) only [hl,hfr0,Ac,Cg,amL,amT,sA,sB,sC,sD,sE,sF,sG,sH,sI,sJ,sK,sL,sM,sN,sO,↓reduceIte,reduceCtorEq]
    skip
    refine Aj ?_
    refine Bx (by kernel_rfl) (by kernel_rfl) ?_
    simp (disch:=(first | assumption | omega)) only [hI,hfr0,Ac,amL,amT,sA,sB,sE,sF,↓reduceIte,reduceCtorEq]
    repeat' first | (refine Aw (by kernel_rfl) rfl (Aap _ _) (by first | exact .inl rfl | exact .inr (.inl rfl)) ?_ ; simp (disch:=(first | assumption | omega)) only [Ahz,hI,Ac,Gl,amL,amT,sA,sB,sE,sF,↓reduceIte,reduceCtorEq])
    try simp (disch:=(first | assumption | omega)) only [Ahz,hI,hl,hfr0,Ac,Cg,Gl,Sq,Ac8,Ac7,Xt,Nz,Jl,amL,amT,sA,sB,sC,sD,sE,sF,sG,sH,sI,sJ,sK,sL,sM,sN,sO,↓reduceIte,reduceCtorEq]
    refine Y5 (upd (upd o1 n (some (.cells [i64 (min s.lo x.2),i64 (max s.hi x.2)]))) bdL (some (.loop (Abe _ none) (tm9 n6 n)))) (by simp (disch:=omega) only [Ac,Ay]; first | done | rfl) (fun z=>?_) (hclL (B6 hcl1 (by simp [AV.isP])) (by rw [Ay]; rfl) (by rw [Ac d7,hI6]; rfl)) ⟨rfl,⟨⟨by simp (disch:=omega) only [Ac,Ay]; first | done | rfl,by simp (disch:=omega) only [Ac]; exact hI6⟩,by rw [Ay]; rfl⟩,fun q hq=>by simp (disch:=omega) only [Ac]⟩
    by_cases e1:z=bdL
    · subst e1; right; rw [Ay,Ay] ; first | done | rfl
    · by_cases e2:z=n
      · subst e2; right; simp (disch:=omega) only [Ac,Ay] ; first | done | rfl
      · by_cases e3:z=bd1+43
        · left; subst e3; simp (disch:=omega) only [Ac]; exact hfr0 43
        · right; simp (disch:=omega) only [Ac]
theorem Ahw:∀ (l:List (Int × Int)) (r:Rng),(Dy (fun (s:Rng × Option Code) x=>(Abq s.1 x,(Abq s.1 x).2.isNone)) (r,none) l).1=(l.foldl (fun r p=>⟨min r.lo p.2,max r.hi p.2⟩) r,none)
  | [],r=>rfl
  | x :: l,r=>by
    show (if (Abq r x).2.isNone=true then Dy _ (Abq r x) l else _).1=_
    rw [if_pos (show (Abq r x).2.isNone=true from rfl)]
    exact Ahw l (Abq r x).1
theorem Aju {t:Tbl} {w m:Rng} (h1:Ep t.w w=true) (h2:Ep t.m m=true):∀ x y,w.lo≤x→x≤w.hi→m.lo≤y→y≤m.hi→Agn t x y:=by
  intro x y a b c d
  simp only [Ep,Bool.and_eq_true,decide_eq_true_eq] at h1 h2
  exact ⟨⟨by omega,by omega⟩,by omega,by omega⟩
theorem Vq {l:List Int} {r:Rng} {most:Int} (hm:most≤1000) (hl:2≤l.length) (hr:Cz most (-1) l=true) (h:Ep l r=true):0≤r.lo∧r.lo≤r.hi∧r.hi≤1000:=by
  simp only [Ep,Bool.and_eq_true,decide_eq_true_eq] at h
  have a:=Gc hr (k:=0) (by omega)
  have b:=Gc hr (k:=l.length - 1) (by omega)
  unfold G6 at h
  omega
theorem Vo {l:List Int} {r:Rng} (h:Ep l r=true):(decide (r.lo≤r.hi)&&(Jy ⟨l.getD 0 0,G6 l⟩ r.lo&&Jy ⟨l.getD 0 0,G6 l⟩ r.hi))=true:=by
  simp only [Ep,Bool.and_eq_true,decide_eq_true_eq] at h
  simp only [Jy,inB,Bool.and_eq_true,decide_eq_true_eq]
  omega
theorem Acj {t:Nat→AV} {tm:List (Nat × AV)} (h:leT t tm):∀ (j:Nat) (p:Nat × AV),tm[j]?=some p→p.2=.undef∨p.2=t p.1:=by
  induction tm with
  | nil=>intro j p hp; simp at hp
  | cons x r ih=>
    obtain ⟨i,v⟩:=x
    rw [Av] at h
    intro j p hp
    cases j with
    | zero=>simp at hp; subst hp; exact .inr h.1.symm
    | succ j=>exact ih h.2 j p (by simpa using hp)
theorem Aej (t:Tbl) (w m:Rng) (ht:G5 t) (h1:Ep t.w w=true) (h2:Ep t.m m=true):Bo Try.prog 157 [avQ t,avR w,avR m] (.tup [avR (Aoj (L3 t w m)),i64 0]):=by
  have hw:=Vq (most:=40) (by omega) ht.nw.1 ht.w h1
  have hm:=Vq (most:=60) (by omega) ht.nm.1 ht.m h2
  have e1:=Vo h1
  have e2:=Vo h2
  have nw:=ht.nw
  have nm:=ht.nm
  refine Aey (v:=[191]) (q:=[]) (N:=51) (rs:=[.cell 6 265,.tmp 7]) Try.func157 rfl rfl rfl rfl rfl ?_
  obtain ⟨A,B,hcode⟩:∃ A B,(Try.f157.body.bind Jh)=some (A,B):=⟨_,_,rfl⟩
  refine Dw fun K1 hK1=>?_
  refine Ak ?_
  simp (disch:=(first | assumption | omega)) only [amL,amT,sA,sB,sF,↓reduceIte,reduceCtorEq]
  refine hK1 _ ?_
  refine Dw fun K2 hK2=>?_
  refine Ad fun K3 hK3=>?_
  simp (disch:=(first | assumption | omega)) only [amL,amT,sA,sB,sF,sG,↓reduceIte]
  repeat' first | (refine Aw (by kernel_rfl) rfl (Yx t ht) (by first | exact .inl rfl | exact .inr (.inl rfl)) ?_ ; simp (disch:=(first | assumption | omega)) only [amL,sA,↓reduceIte])
  refine hK3 _ ?_
  refine Ad fun K4 hK4=>?_
  simp (disch:=(first | assumption | omega)) only [amL,amT,sA,↓reduceIte]
  refine hK4 _ ?_
  refine Ai rfl (fun h=>MT.x ?_) (fun h=>ME.x ?_)
  all_goals
   first
   |refine MT.mk ?_
    first
    |exact Bool.noConfusion h
    |skip
     try simp only [nrm] at h
     refine Ad fun K5 hK5=>?_
     simp (disch:=(first | assumption | omega)) only [e1,e2,Ac,amL,amT,sA,sB,sC,sD,sE,sF,sG,sH,sI,sJ,sK,sL,sM,sN,sO,↓reduceIte,reduceCtorEq]
     refine hK5 _ ?_
     refine Af ?_
     try simp (disch:=(first | assumption | omega)) only [e1,e2,Ac,amL,amT,sA,sB,sC,sD,sE,sF,sG,sH,sI,sJ,sK,sL,sM,sN,sO,↓reduceIte,reduceCtorEq]
     all_goals first | rfl | trace_state
   |refine ME.mk ?_
    first
    |exact Bool.noConfusion h
    |skip
     try simp only [nrm] at h
     refine Am ?_
     refine hK2 _ ?_
  all_goals
   skip
   refine Dw fun K6 hK6=>?_
   refine Ab fun K7 hK7=>?_
   refine Bx (by kernel_rfl) (by kernel_rfl) ?_
   simp (disch:=(first | assumption | omega)) only [amL,amT,sA,sF,sG,↓reduceIte,reduceCtorEq]
   repeat' first | (refine Ck (fun h=>?_) (fun h=>?_) <;> simp (disch:=(first | assumption | omega)) only [h,e1,e2,Ac,amL,amT,sA,sB,sC,sD,sE,sF,sG,sH,sI,sJ,sK,sL,sM,sN,sO,↓reduceIte,reduceCtorEq]) | (refine Bp (fun h=>?_) (fun h=>?_) <;> simp (disch:=(first | assumption | omega)) only [h,e1,e2,Ac,amL,amT,sA,sB,sC,sD,sE,sF,sG,sH,sI,sJ,sK,sL,sM,sN,sO,↓reduceIte,reduceCtorEq]) | (refine Aw (by kernel_rfl) rfl (by first | exact Adf t.w (by omega) (by omega) | exact Adf t.m (by omega) (by omega)) (by first | exact .inl rfl | exact .inr (.inl rfl)) ?_ ; simp (disch:=(first | assumption | omega)) only [amL,amT,sA,sB,sF,sG,↓reduceIte]) | (refine Aw (by kernel_rfl) rfl (by first | exact Yv (Rng.mk (t.w.getD 0 0) (G6 t.w)) w | exact Yv (Rng.mk (t.m.getD 0 0) (G6 t.m)) m) (by first | exact .inl rfl | exact .inr (.inl rfl)) ?_ ; simp (disch:=(first | assumption | omega)) only [e1,e2,amL,amT,sA,sF,sG,↓reduceIte,reduceCtorEq])
   all_goals
    skip
    refine hK7 _ ?_
    refine Ai rfl (fun h=>MT.x ?_) (fun h=>ME.x ?_)
    all_goals
     first
     |refine MT.mk ?_
      first
      |exact Bool.noConfusion h
      |skip
       try simp only [nrm] at h
       refine Ad fun K8 hK8=>?_
       simp (disch:=(first | assumption | omega)) only [e1,e2,Ac,amL,amT,sA,sB,sC,sD,sE,sF,sG,sH,sI,sJ,sK,sL,sM,sN,sO,↓reduceIte,reduceCtorEq]
       refine hK8 _ ?_
       refine Af ?_
       try simp (disch:=(first | assumption | omega)) only [e1,e2,Ac,amL,amT,sA,sB,sC,sD,sE,sF,sG,sH,sI,sJ,sK,sL,sM,sN,sO,↓reduceIte,reduceCtorEq]
       all_goals first | rfl | trace_state
     |refine ME.mk ?_
      first
      |exact Bool.noConfusion h
      |skip
       try simp only [] at h
       refine Am ?_
       refine hK6 _ ?_
    all_goals
     skip
     refine Dw fun K9 hK9=>?_
     refine Ak ?_
     simp (disch:=(first | assumption | omega)) only [amL,amT,sA,sB,sE,sF,↓reduceIte]
     refine hK9 _ ?_
     refine Tp fun K10 hK10=>?_
     refine Dw fun K11 hK11=>?_
     refine Ak ?_
     simp (disch:=(first | assumption | omega)) only [amL,amT,sA,sB,sF,↓reduceIte]
     refine A9 [(6,.ptr 6 0),(9,.ptr 9 0)] (by decide) (Ag6 (t:=t) (w:=w) (m:=m) (bd:=51)) (Gg rfl) (by decide) (fun res os2 hR hcl2 hlv2=>?_)
     obtain ⟨rfl,rfl⟩:=hR
     simp (disch:=(first | assumption | omega)) only [amL,sB,sF,↓reduceIte]
     refine hK11 _ ?_
     refine T1 ?_
     have hRd:=Ajr (L:=L3 t w m) (n6:=6) (n:=9) (bdL:=60) (by decide) (by decide) (by decide) hcode
     have hc:=Aew (F:=fun q=>(q=9∨q=6)∨q=60) hRd.yields ht (Aju h1 h2) hw hm (nm:=56) (nw:=55) (nt:=54) (by decide) (by decide) (by decide) (s:=((Rng.mk 2000 0),(none:Option Code))) (bd:=61) (os:=O [(60,.loop ⟨51,[38,39],A,B,.ready,none⟩ (tm9 6 9)),(56,.cells [i64 m.lo,i64 m.hi]),(55,.cells [i64 w.lo,i64 w.hi]),(54,.cells (cQ t)),(9,.cells [i64 2000,i64 0]),(9,.cells [i64 0,i64 0]),(6,.cells [i64 0,i64 0]),(5,.cells [i64 m.lo,i64 m.hi]),(4,.cells [i64 w.lo,i64 w.hi]),(3,.cells (cQ t))]) rfl rfl rfl rfl ⟨⟨rfl,rfl⟩,rfl⟩
     cases (show some (_,_)=some (A,B) from hcode)
     refine Mb (bd:=60) (tm:=tm9 6 9) rfl (Gg rfl) (by decide) rfl (by kernel_rfl) (fun i=>R3 (by simp (disch:=(first | assumption | omega)) only [amL,sF,↓reduceIte]) i) (Acj (by simp (disch:=(first | assumption | omega)) only [amL,sF,↓reduceIte])) hc (fun res os2 hR hcl2=>?_)
     obtain ⟨rfl,hI2,hfr2⟩:=hR
     rw [Ahw] at hI2
     obtain ⟨⟨q5,q6⟩,q7⟩:=hI2
     dsimp only at q5 q6 q7
     refine ⟨_,q7,by simp [],?_⟩
     show Kv 0 _ .normal _
     simp only [Ff,Hb]
     refine hK10 _ ?_
     refine Dw fun K12 hK12=>?_
     refine Ak ?_
     simp (disch:=(first | assumption | omega)) only [q5,q6,Ac,amL,amT,sA,sB,sF,↓reduceIte]
     refine hK12 _ ?_
     refine L0 ?_
     refine Af ?_
     try simp (disch:=(first | assumption | omega)) only [amL,amT,sB,sF,↓reduceIte]
     all_goals first | rfl | trace_state
theorem My (n lo hi:Int):Bo Try.prog 56 [i64 n,i64 lo,i64 hi] (bl (inB n lo hi)):=by
  refine A0 (v:=[]) (q:=[]) (N:=15) (rs:=[.tmp 6]) Try.func56 rfl rfl rfl rfl rfl ?_
  refine Ad fun K1 hK1=>?_
  simp (disch:=omega) only [amL,sA,sB]
  refine hK1 _ ?_
  refine Ad fun K2 hK2=>?_
  simp (disch:=omega) only [amL,amT,sA,sF,↓reduceIte,reduceCtorEq]
  repeat' first | (refine Ck (fun h=>?_) (fun h=>?_) <;> simp (disch:=omega) only [h,amL,amT,sA,sF,↓reduceIte,reduceCtorEq]) | (refine Bp (fun h=>?_) (fun h=>?_) <;> simp (disch:=omega) only [h,amL,amT,sA,sB,sC,sD,sE,sF,sG,sH,sI,sJ,sK,sL,sM,sN,sO,↓reduceIte,reduceCtorEq])
  all_goals
   skip
   refine hK2 _ ?_
   refine Af ?_
   try simp (disch:=omega) only [amL,↓reduceIte]
   simp [inB,h]
theorem Yd (r:Rng):Bo Try.prog 158 [avR r] (avR r):=by
  refine A0 (v:=[]) (q:=[]) (N:=8) (rs:=[.cell 2 265]) Try.func158 rfl rfl rfl rfl rfl ?_
  refine Ad fun K1 hK1=>?_
  simp (disch:=omega) only [amL,amT,sA,sB,sF,↓reduceIte]
  refine hK1 _ ?_
  refine Ad fun K2 hK2=>?_
  simp (disch:=omega) only [amL,amT,sA,sB,sE,sF,↓reduceIte,reduceCtorEq]
  refine hK2 _ ?_
  refine Af ?_
  try simp (disch:=omega) only [amL,amT,sB,sF,↓reduceIte]
  all_goals rfl
theorem Aki (s:Sto) (c:Csk) (ht:G5 s.t) (hc:okC s.t c=true):Bo Try.prog 110 [avO s,avC c] (.tup [avR (E8 s c),i64 0]):=by
  have hh:Ep s.t.w c.t=true∧Ep s.t.m c.k=true:=by
    simp only [okC,Bool.and_eq_true] at hc; exact hc.2
  refine A0 (v:=[]) (q:=[]) (N:=26) (rs:=[.cell 4 52,.tmp 5]) Try.func110 rfl rfl rfl rfl rfl ?_
  refine Ad fun K1 hK1=>?_
  simp (disch:=omega) only [amL,amT,sA,sB,sF,↓reduceIte,reduceCtorEq]
  refine hK1 _ ?_
  refine Ab fun K2 hK2=>?_
  refine Y4 [.sto [8] 6] (by kernel_rfl) (by kernel_rfl) ?_
  simp (disch:=omega) only [amL,amT,sA,sB,sE,sF,↓reduceIte,reduceCtorEq]
  repeat' first | (refine Aw (by kernel_rfl) rfl (by first | exact Yd c.t | exact Yd c.k) (by first | exact .inl rfl | exact .inr (.inl rfl)) ?_ ; simp (disch:=omega) only [amL,amT,sA,sB,sF,↓reduceIte,reduceCtorEq]) | (refine Aw (by kernel_rfl) rfl (Aej s.t c.t c.k ht hh.1 hh.2) (by first | exact .inl rfl | exact .inr (.inl rfl)) ?_ ; simp (disch:=omega) only [amL,amT,sA,sB,sF,↓reduceIte])
  refine ⟨by simp [Cf.ok,Mm,T,AV.known,AV.clean,AV.clean.cleanL],?_⟩
  all_goals
   skip
   refine hK2 _ ?_
   refine Ad fun K3 hK3=>?_
   simp (disch:=omega) only [amL,amT,sA,sB,sE,sF,↓reduceIte,reduceCtorEq]
   refine hK3 _ ?_
   refine Af ?_
   try simp (disch:=omega) only [amL,amT,sB,sF,↓reduceIte]
   all_goals first | rfl | trace_state
theorem Amb (s:Sto) (c:Csk) (ht:G5 s.t) (hc:okC s.t c=true):Bo Try.prog 155 [avO s,avC c] (bl true):=by
  have hg:inB c.g 1 99=true:=by
    simp only [okC,Bool.and_eq_true] at hc; exact hc.1
  refine A0 (v:=[]) (q:=[]) (N:=20) (rs:=[.tmp 4]) Try.func155 rfl rfl rfl rfl rfl ?_
  refine Ad fun K1 hK1=>?_
  simp (disch:=omega) only [eq_self,decide_true,amL,sA,sB,sF,↓reduceIte,reduceCtorEq]
  refine hK1 _ ?_
  refine Ad fun K2 hK2=>?_
  simp (disch:=omega) only [eq_self,decide_true,amL,amT,sA,sB,sF,↓reduceIte]
  repeat' first | (refine Aw (by kernel_rfl) rfl (Aki s c ht hc) (by first | exact .inl rfl | exact .inr (.inl rfl)) ?_ ; simp (disch:=omega) only [eq_self,decide_true,amL,amT,sA,sB,sF,↓reduceIte])
  refine hK2 _ ?_
  refine Ad fun K3 hK3=>?_
  simp (disch:=omega) only [eq_self,decide_true,amL,amT,sA,sF,↓reduceIte,reduceCtorEq]
  repeat' first | (refine Ck (fun h=>?_) (fun h=>?_) <;> simp (disch:=omega) only [h,hg,eq_self,decide_true,amL,amT,sA,sB,sC,sD,sE,sF,sG,sH,sI,sJ,sK,sL,sM,sN,sO,↓reduceIte,reduceCtorEq]) | (refine Bp (fun h=>?_) (fun h=>?_) <;> simp (disch:=omega) only [h,hg,eq_self,decide_true,amL,amT,sA,sB,sC,sD,sE,sF,sG,sH,sI,sJ,sK,sL,sM,sN,sO,↓reduceIte,reduceCtorEq]) | (refine Aw (by kernel_rfl) rfl (My _ _ _) (by first | exact .inl rfl | exact .inr (.inl rfl)) ?_ ; simp (disch:=omega) only [hg,eq_self,decide_true,amL,amT,sA,sF,↓reduceIte])
  all_goals
   skip
   refine hK3 _ ?_
   refine Af ?_
   try simp (disch:=omega) only [eq_self,amL,↓reduceIte]
   all_goals first | rfl | (simp_all; done) | trace_state
theorem elC:ElT Try.prog 42 146 avC Zf:=Xm (P:=Try.prog) (tS:=42) (tE:=146) (enc:=Zf) (n:=5) (by simp only [amT]) (by simp only [amT]; rfl) (by simp only [amT]) (fun _=>rfl)
theorem sfC:Jn Try.prog 42 146 263 3 4 211 187:=⟨⟨_,Try.func211,rfl,rfl,rfl,by kernel_rfl⟩,⟨_,Try.func187,rfl,rfl,rfl,by kernel_rfl⟩⟩
theorem afC : W7 Try.prog "proof.go:35" "proof.go:36" 42 146 263 4 187 188 156 := ⟨⟨_, Try.func188, rfl, rfl, rfl, by kernel_rfl⟩, ⟨_, Try.func156, rfl, rfl, rfl, by kernel_rfl⟩⟩
theorem An6 (s:Sto) (hS:Ng s) {os:Nat→Option AO} {bd:Nat}:Bs Try.prog bd (.fn (.func 156) [] []) [.p (slC s.c),.fn (.func 155) [avO s] []] os fun res os'=>res=bl (s.c.all fun _=>true)∧os'=os:=
  Aht elC sfC afC (by simp only [amT]; rfl) (by kernel_rfl) rfl (fun x hx=>Amb s x hS.t (List.all_eq_true.1 hS.c x hx)) (by have:=hS.n; omega)
theorem Gz {α:Type}:∀ (l:List α),(l.all fun _=>true)=true
  | []=>rfl
  | _ :: l=>by simp only [List.all_cons,Bool.true_and]; exact Gz l
theorem Akb (s:Sto) (hS:Ng s):Bo Try.prog 109 [avO s] (i64 0):=by
  have hn:=hS.n
  have hr:=hS.r
  refine A0 (v:=[156]) (q:=[]) (N:=30) (rs:=[.tmp 2]) Try.func109 rfl rfl rfl rfl rfl ?_
  refine Ad fun K1 hK1=>?_
  simp (disch:=omega) only [eq_self,amL,sA,↓reduceIte]
  refine hK1 _ ?_
  refine Ab fun K2 hK2=>?_
  refine Ad fun K3 hK3=>?_
  simp (disch:=omega) only [eq_self,amL,amT,sA,sB,sE,sF,sG,↓reduceIte,reduceCtorEq]
  repeat' first | (refine Aw (by kernel_rfl) rfl (Yx s.t hS.t) (by first | exact .inl rfl | exact .inr (.inl rfl)) ?_ ; simp (disch:=omega) only [eq_self,amL,sA,↓reduceIte])
  refine hK3 _ ?_
  refine Ad fun K4 hK4=>?_
  simp (disch:=omega) only [ne_eq,eq_self,not_true_eq_false,decide_false,amL,amT,sA,↓reduceIte]
  refine hK4 _ ?_
  refine Ai rfl (fun h=>MT.x ?_) (fun h=>ME.x ?_)
  all_goals
   first
   |refine MT.mk ?_
    first
    |exact Bool.noConfusion h
    |skip
     try simp only [nrm] at h
     refine Ad fun K5 hK5=>?_
     simp (disch:=omega) only [hr,Gz,ne_eq,eq_self,not_true_eq_false,decide_false,amL,amT,sA,sB,sC,sD,sE,sF,sG,sH,sI,sJ,sK,sL,sM,sN,sO,↓reduceIte,reduceCtorEq]
     refine hK5 _ ?_
     refine Af ?_
     try simp (disch:=omega) only [hr,Gz,ne_eq,eq_self,not_true_eq_false,decide_false,amL,amT,sA,sB,sC,sD,sE,sF,sG,sH,sI,sJ,sK,sL,sM,sN,sO,↓reduceIte,reduceCtorEq]
     all_goals first | rfl | (exfalso; omega) | (simp_all; done) | (simp_all; omega) | trace_state
   |refine ME.mk ?_
    first
    |exact Bool.noConfusion h
    |skip
     try simp only [] at h
     refine Am ?_
     refine hK2 _ ?_
  all_goals
   skip
   refine Ad fun K6 hK6=>?_
   simp (disch:=omega) only [eq_self,amL,amT,sA,sB,sF,↓reduceIte]
   refine hK6 _ ?_
   refine Ab fun K7 hK7=>?_
   refine Aj ?_
   refine Ad fun K8 hK8=>?_
   simp (disch:=omega) only [eq_self,amL,amT,sA,sF,↓reduceIte,reduceCtorEq]
   refine hK8 _ ?_
   refine Ai rfl (fun h=>MT.x ?_) (fun h=>ME.x ?_)
   all_goals
    first
    |refine MT.mk ?_
     first
     |exact Bool.noConfusion h
     |skip
      try simp only [nrm] at h
      refine Ad fun K9 hK9=>?_
      simp (disch:=omega) only [eq_self,amL,sA]
      refine hK9 _ ?_
      refine Af ?_
      try simp (disch:=omega) only [eq_self,amL,↓reduceIte]
      all_goals first | rfl | (exfalso; omega) | (simp_all; done) | (simp_all; omega) | trace_state
    |refine ME.mk ?_
     first
     |exact Bool.noConfusion h
     |skip
      try simp only [nrm] at h
      refine Ad fun K10 hK10=>?_
      simp (disch:=omega) only [eq_self,amL,amT,sA,sF,sG,↓reduceIte,reduceCtorEq]
      repeat' first | (refine Ck (fun h=>?_) (fun h=>?_) <;> simp (disch:=omega) only [h,hr,Gz,ne_eq,eq_self,not_true_eq_false,decide_false,amL,amT,sA,sB,sC,sD,sE,sF,sG,sH,sI,sJ,sK,sL,sM,sN,sO,↓reduceIte,reduceCtorEq]) | (refine Bp (fun h=>?_) (fun h=>?_) <;> simp (disch:=omega) only [h,hr,Gz,ne_eq,eq_self,not_true_eq_false,decide_false,amL,amT,sA,sB,sC,sD,sE,sF,sG,sH,sI,sJ,sK,sL,sM,sN,sO,↓reduceIte,reduceCtorEq]) | (refine Aw (by kernel_rfl) rfl (My _ _ _) (by first | exact .inl rfl | exact .inr (.inl rfl)) ?_ ; simp (disch:=omega) only [hr,eq_self,amL,amT,sA,sF,↓reduceIte,reduceCtorEq]) | (refine Ca (bd:=30) (by decide) (An6 s hS) (Gg rfl) (by decide) rfl ?_ ; simp (disch:=omega) only [Gz,eq_self,amL,sA,sF,↓reduceIte])
      all_goals
       skip
       refine hK10 _ ?_
       refine Ai rfl (fun h=>MT.x ?_) (fun h=>ME.x ?_)
       all_goals
        first
        |refine MT.mk ?_
         first
         |exact Bool.noConfusion h
         |skip
          try simp only [nrm] at h
          refine Ad fun K11 hK11=>?_
          simp (disch:=omega) only [hr,Gz,ne_eq,eq_self,not_true_eq_false,decide_false,amL,amT,sA,sB,sC,sD,sE,sF,sG,sH,sI,sJ,sK,sL,sM,sN,sO,↓reduceIte,reduceCtorEq]
          refine hK11 _ ?_
          refine Af ?_
          try simp (disch:=omega) only [hr,Gz,ne_eq,eq_self,not_true_eq_false,decide_false,amL,amT,sA,sB,sC,sD,sE,sF,sG,sH,sI,sJ,sK,sL,sM,sN,sO,↓reduceIte,reduceCtorEq]
          all_goals first | rfl | (exfalso; omega) | (simp_all; done) | (simp_all; omega) | trace_state
        |refine ME.mk ?_
         first
         |exact Bool.noConfusion h
         |skip
          try simp only [] at h
          refine Am ?_
          refine hK7 _ ?_
   all_goals
    skip
    refine Ad fun K12 hK12=>?_
    simp (disch:=omega) only [eq_self,amL,sA]
    refine hK12 _ ?_
    refine Af ?_
    try simp (disch:=omega) only [eq_self,amL,↓reduceIte]
    all_goals first | rfl | (exfalso; omega) | (simp_all; done) | (simp_all; omega) | trace_state
abbrev Dl (s:Sto) (kn:AV) (lo hi:List Int):List AV:=isl s.t.w :: isl s.t.m :: .p (slI s.t.v) :: i64 s.r :: .p (slC s.c) :: kn :: (lo.map (fun n=>i64 n)++hi.map (fun n=>i64 n))
def Lq (s:Sto) (k:Nat):List Rng:=(s.c.take k).map (E8 s)
def loL (s:Sto) (k:Nat):List Int:=(Lq s k).map (·.lo)++List.replicate (6 - k) 0
def hiL (s:Sto) (k:Nat):List Int:=(Lq s k).map (·.hi)++List.replicate (6 - k) 0
theorem Hx {s:Sto} {k:Nat} (h:k≤s.c.length):(Lq s k).length=k:=by
  unfold Lq; rw [List.length_map,List.length_take]; omega
theorem Wn {s:Sto} {k:Nat} (h:k≤s.c.length) (h6:s.c.length≤6):(loL s k).length=6:=by
  unfold loL; rw [List.length_append,List.length_map,Hx h,List.length_replicate]; omega
theorem Aca {s:Sto} {k:Nat} (h:k≤s.c.length) (h6:s.c.length≤6):(hiL s k).length=6:=by
  unfold hiL; rw [List.length_append,List.length_map,Hx h,List.length_replicate]; omega
theorem P1 {s:Sto} {k:Nat} (h:k < s.c.length):Lq s (k+1)=Lq s k++[E8 s (s.c.getD k default)]:=by
  unfold Lq
  rw [← List.take_append_getElem h,List.map_append,List.getElem_eq_getD default]; rfl
theorem Vz {α β:Type} {f:α→β} {l:List α} {x:α} {z:β} {k m:Nat} (hk:l.length=k) (hm:k < m):((l.map f++List.replicate (m - k) z).set k (f x))=(l++[x]).map f++List.replicate (m - (k+1)) z:=by
  subst hk
  obtain ⟨j,hj⟩:∃ j,m - l.length=j+1:=⟨m - l.length - 1,by omega⟩
  rw [hj,show m - (l.length+1)=j by omega,List.replicate_succ,List.set_append_right (h:=by rw [List.length_map]; omega),List.length_map,Nat.sub_self,List.set_cons_zero,List.map_append,List.append_assoc]; rfl
theorem Ake {s:Sto} {k:Nat} (h:k < s.c.length) (h6:s.c.length≤6):(loL s k).set k (E8 s (s.c.getD k default)).lo=loL s (k+1):=by
  unfold loL
  rw [P1 h]
  exact Vz (f:=fun r:Rng=>r.lo) (Hx (by omega)) (by omega)
theorem Agk {s:Sto} {k:Nat} (h:k < s.c.length) (h6:s.c.length≤6):(hiL s k).set k (E8 s (s.c.getD k default)).hi=hiL s (k+1):=by
  unfold hiL
  rw [P1 h]
  exact Vz (f:=fun r:Rng=>r.hi) (Hx (by omega)) (by omega)
theorem Ak7 {s:Sto} {kn:AV} {lo hi:List Int} {k:Nat} {x:Int} (h:k < lo.length):(Dl s kn lo hi).set (6+k) (i64 x)=Dl s kn (lo.set k x) hi:=by
  rw [Nat.add_comm]
  show _ :: _ :: _ :: _ :: _ :: _ :: (lo.map (fun n=>i64 n)++hi.map (fun n=>i64 n)).set k (i64 x)=_
  rw [List.set_append_left (h:=by rw [List.length_map]; exact h),← List.map_set (f:=fun n=>i64 n)]
theorem Al8 {s:Sto} {kn:AV} {lo hi:List Int} {k:Nat} {x:Int} (h:lo.length=6):(Dl s kn lo hi).set (12+k) (i64 x)=Dl s kn lo (hi.set k x):=by
  rw [show 12+k=(6+k)+6 by omega]
  show _ :: _ :: _ :: _ :: _ :: _ :: (lo.map (fun n=>i64 n)++hi.map (fun n=>i64 n)).set (6+k) (i64 x)=_
  rw [List.set_append_right (h:=by rw [List.length_map]; omega),List.length_map,h,show 6+k - 6=k by omega,← List.map_set (f:=fun n=>i64 n)]
theorem Aow {X:Nat→Option AO} {a b:Nat} {x y z:Option AO} (h:a≠b):upd (upd (upd X a x) b y) a z=upd (upd X a z) b y:=by
  rw [Cp h,Cg]; exact (Cp h).symm
theorem Aip {os:Nat→Option AO} {n k:Nat} {es:List (List PV)} (hcl:(Hp os).closed):(Hp (upd os n (some (.arr k es)))).closed:=Ce hcl (AO.lives_arr _ _ _)
theorem Z8 {X:Nat→Option AO} {b n k:Nat} {s:Sto} {lo hi:List Int} {es:List (List PV)} (hcl:(Hp X).closed) (hne:b≠n):(Hp (upd (upd X b (some (.cells (Dl s (.own n k) lo hi)))) n (some (.arr 2 es)))).closed:=by
  rw [Cp hne]
  refine Ce (Aip hcl) (AO.lives_cells.2 fun i x hx=>?_)
  have hx:=List.mem_of_getElem? hx
  simp only [Dl,List.mem_cons,List.mem_append,List.mem_map] at hx
  rcases hx with rfl | rfl | rfl | rfl | rfl | rfl | ⟨_,_,rfl⟩ | ⟨_,_,rfl⟩ <;> try exact AV.lives_p _ _
  intro m hm
  simp only [AV.clean,bne_eq_false_iff_eq] at hm
  subst hm
  have h9:(upd (upd X n (some (.arr 2 es))) b (some (.cells (Dl s (.own n k) lo hi))) n).isSome=true:=by rw [Ac (Ne.symm hne),Ay]; rfl
  exact h9
theorem An4 {l:List (Nat × AV)} {X:Nat→Option AO} {b n k:Nat} {cs:List AV} {es:List (List PV)} (hcl:(Hp X).closed) (hn:X n=none) (hne:b≠n):St.frz n es ⟨T l,upd (upd X b (some (.cells cs))) n (some (.arr k es))⟩=⟨T (Aja n es l),upd X b (some (.cells (cs.map (AV.frz n es))))⟩:=by
  unfold St.frz
  rw [Ax7]
  congr 1
  funext m
  by_cases e:m=n
  · subst e; rw [if_pos rfl,Ac (Ne.symm hne),hn]
  · rw [if_neg e]
    show (upd (upd X b _) n _ m).map _=_
    rw [Ac e]
    by_cases e2:m=b
    · subst e2; rw [Ay,Ay]; rfl
    · rw [Ac e2,Ac e2]
      cases ho:X m with
      | none=>rfl
      | some o=>
        rw [Option.map_some,AO.frz_id o]
        cases hc:o.clean n with
        | true=>rfl
        | false=>
          have:(X n).isSome=true:=hcl.2 m o ho n hc
          rw [hn] at this; cases this
theorem Ah1 {s:Sto} {n k:Nat} {lo hi:List Int} {es:List (List PV)} (h:k=es.length):(Dl s (.own n k) lo hi).map (AV.frz n es)=Dl s (.p (.sl es)) lo hi:=by
  subst h
  have e:∀ l:List Int,(l.map fun n=>i64 n).map (AV.frz n es)=l.map fun n=>i64 n:=fun l=>by rw [List.map_map]; rfl
  simp only [Dl,List.map_cons,List.map_append,e]
  congr 5
  simp [AV.frz]
theorem Ph {s:Sto} {es:List (List PV)} {lo hi:List Int}:∀ x ∈ Dl s (.p (.sl es)) lo hi,x.isP=true:=fun x hx=>by
  simp only [Dl,List.mem_cons,List.mem_append,List.mem_map] at hx
  rcases hx with rfl | rfl | rfl | rfl | rfl | rfl | ⟨_,_,rfl⟩ | ⟨_,_,rfl⟩ <;> rfl
theorem Hz {l:List Int} {n:Nat}:(l.map fun m=>i64 m).map (AV.purge n)=l.map fun m=>i64 m:=by
  rw [List.map_map]; exact List.map_congr_left fun x _=>by simp only [Function.comp,La]
theorem Agz {os:Nat→Option AO} {b1 b17 b7 b8 b38 b39:Nat} {c1 o17 W W' E E' o7 o8 o38:Option AO} (d1:b1 < b7) (d2:b7 < b8) (d3:b8 < b17) (d4:b17 < b38) (d5:b38 < b39) (f7:os b7=none) (f8:os b8=none) (f38:os b38=none) (eW:W'=W) (eE:E'=E) :
    Sub (upd (upd (upd os b1 c1) b17 W) b39 E) (upd (upd (upd (upd (upd (upd (upd os b1 c1) b17 o17) b7 o7) b8 o8) b38 o38) b39 E') b17 W'):=by
  subst eW eE
  intro z
  by_cases h17:z=b17
  · right; subst h17; rw [Ac (by omega),Ay,Ay]
  · by_cases h39:z=b39
    · right; subst h39; rw [Ay,Ac h17,Ay]
    · rw [Ac h39,Ac h17,Ac h17,Ac h39]
      by_cases h38:z=b38
      · left; subst h38; rw [Ac (by omega)]; exact f38
      · rw [Ac h38]
        by_cases h8:z=b8
        · left; subst h8; rw [Ac (by omega)]; exact f8
        · rw [Ac h8]
          by_cases h7:z=b7
          · left; subst h7; rw [Ac (by omega)]; exact f7
          · right; rw [Ac h7,Ac h17]
theorem Adz {s:Sto} {kn:AV} {k:Nat} (h:k < s.c.length) (h6:s.c.length≤6):((Dl s kn (loL s k) (hiL s k)).set (6+k) (i64 (E8 s (s.c.getD k default)).lo)).set (12+k) (i64 (E8 s (s.c.getD k default)).hi)=Dl s kn (loL s (k+1)) (hiL s (k+1)):=by
  have hl:=Wn (s:=s) (k:=k) (by omega) h6
  rw [Ak7 (by omega),Al8 (by rw [List.length_set]; exact hl),Ake h h6,Agk h h6]
theorem Ai8 {s:Sto} {k:Nat} (h:k < s.c.length):(Lq s k).map Gp++[Gp (E8 s (s.c.getD k default))]=(Lq s (k+1)).map Gp:=by
  rw [P1 h,List.map_append]; rfl
theorem Ada {s:Sto} (hS:Ng s) {os:Nat→Option AO} {bd:Nat} :
    Bs Try.prog bd (.fn (.func 52) [] []) [avO s] os fun res os'=>res=.tup [.ptr (bd+17) 0,i64 0]∧os'=upd os (bd+17) (some (.cells (Dl s (.p (.sl ((Lq s s.c.length).map Gp))) (loL s s.c.length) (hiL s s.c.length)))):=by
  have hn:=hS.n
  refine B9 (v:=[]) (q:=[]) (N:=58) (rs:=[.tmp 2,.tmp 3]) Try.func52 rfl (by kernel_rfl) rfl rfl (fun hcl hfree=>?_)
  have hfr0:∀ k,os (bd+k)=none:=fun k=>hfree _ (by omega)
  have hpg:∀ k,pgO (bd+k) os=os:=fun k=>Ahv hcl (hfr0 k)
  refine Ad fun K1 hK1=>?_
  simp (disch:=omega) only [hfr0,amL,sA,↓reduceIte]
  refine hK1 _ ?_
  refine Ab fun K2 hK2=>?_
  refine Ad fun K3 hK3=>?_
  simp (disch:=omega) only [List.map_cons,List.map_nil,amL,amT,sA,sB,sF,↓reduceIte]
  repeat' first | (refine Aw (by kernel_rfl) rfl (Akb s hS) (by first | exact .inl rfl | exact .inr (.inl rfl)) ?_ ; simp (disch:=omega) only [amL,sA,↓reduceIte])
  refine hK3 _ ?_
  refine Ad fun K4 hK4=>?_
  simp (disch:=omega) only [amL,amT,sA,↓reduceIte]
  refine hK4 _ ?_
  refine Ai rfl (fun h=>MT.x ?_) (fun h=>ME.x ?_)
  all_goals
   first
   |refine MT.mk ?_
    first
    |exact Bool.noConfusion h
    |skip
     try simp only [nrm] at h
     refine Ad fun K5 hK5=>?_
     simp (disch:=omega) only [Jv,N7,L8,hpg,Hz,Fr,Hk,List.map_cons,List.map_nil,List.map_append,La,hfr0,Ac,Cg,En,amL,amT,sA,sB,sC,sD,sE,sF,sG,sH,sI,sJ,sK,sL,sM,sN,sO,↓reduceIte,reduceCtorEq]
     refine hK5 _ ?_
     refine Af ?_
     try simp (disch:=omega) only [Jv,N7,L8,hpg,Hz,Fr,Hk,List.map_cons,List.map_nil,List.map_append,La,hfr0,Ac,Cg,En,amL,amT,sA,sB,sC,sD,sE,sF,sG,sH,sI,sJ,sK,sL,sM,sN,sO,↓reduceIte,reduceCtorEq]
     refine Bj (res:=.tup [.ptr (bd+17) 0,i64 0]) (upd os (bd+17) (some (.cells (Dl s (.p (.sl ((Lq s s.c.length).map Gp))) (loL s s.c.length) (hiL s s.c.length))))) (by first | rfl | (simp (disch:=omega) only [Jv,N7,L8,hpg,Hz,Fr,Hk,List.map_cons,List.map_nil,List.map_append,La,hfr0,Ac,Cg,En,amL,amT,sA,sB,sC,sD,sE,sF,sG,sH,sI,sJ,sK,sL,sM,sN,sO,↓reduceIte,reduceCtorEq]; try rfl)) (by first | ((repeat' first | exact Sub.refl _ | refine Sub.skip (by first | exact hfr0 _ | (simp (disch:=omega) only [Ac]; exact hfr0 _)) ?_ | refine Sub.both ?_); done) | fail) (B6 hcl Ph) ?_ ⟨rfl,rfl⟩
     rw [Kp,Bv,Bv,Cc,Cj]; exact ⟨by rw [Ay]; rfl,AV.lives_p _ _,trivial⟩
   |refine ME.mk ?_
    first
    |exact Bool.noConfusion h
    |skip
     try simp only [nrm] at h
     refine Am ?_
     refine hK2 _ ?_
  all_goals
   skip
   refine Ad fun K6 hK6=>?_
   simp (disch:=omega) only [List.map_cons,List.map_nil,hfr0,Ac,amL,amT,sA,sB,sE,sF,↓reduceIte]
   refine hK6 _ ?_
   refine Ab fun K7 hK7=>?_
   refine Ad fun K8 hK8=>?_
   simp (disch:=omega) only [Ac,amL,amT,sA,sF,↓reduceIte,reduceCtorEq]
   refine hK8 _ ?_
   refine Aj ?_
   refine T2 (bd+39) 2 (bd+17) 5 (Nat.le_add_right _ _) Ay rfl (by simp (disch:=omega) only [Ac]; exact hfr0 _) ?_
   show AWP _ _ _ _ ⟨T _,upd (upd (upd (upd os (bd+1) _) (bd+17) _) (bd+39) _) (bd+17) _⟩ _
   rw [Aow (by omega)]
   refine Bh (α:=Nat) (fun k=>⟨T [(1,.ptr (bd+1) 0),(5,.ptr (bd+17) 0),(19,.p (slC s.c)),(20,i64 s.c.length),(21,i64 (k:Int))],upd (upd (upd os (bd+1) (some (.cells (cO s)))) (bd+17) (some (.cells (Dl s (.own (bd+39) k) (loL s k) (hiL s k))))) (bd+39) (some (.arr 2 ((Lq s k).map Gp)))⟩) (fun k=>s.c.length - k) (fun k=>k≤s.c.length) 0 ?_ ?_ (fun k hx9 K9 hK9=>?_)
   · exact Nat.zero_le _
   · refine F5 ?_ ?_ ?_ ?_ <;> (try simp (disch:=omega) only [Ac,amL,sF,↓reduceIte]); all_goals first | exact Sub.refl _ | exact Z8 (B6 hcl (by simp [AV.isP])) (by omega) | trace_state
   have hk:=hx9
   refine Ad fun K10 hK10=>?_
   simp (disch:=omega) only [amL,amT,sA,sF,↓reduceIte]
   refine hK10 _ ?_
   refine Ab fun K11 hK11=>?_
   refine Ai rfl (fun h=>MT.x ?_) (fun h=>ME.x ?_)
   all_goals
    first
    |refine MT.mk ?_
     first
     |exact Bool.noConfusion h
     |skip
      try simp only [nrm] at h
      refine Am ?_
      refine hK11 _ ?_
    |refine ME.mk ?_
     first
     |exact Bool.noConfusion h
     |skip
      try simp only [nrm] at h
      refine B2 ?_
      refine hK7 _ ?_
      refine Ab fun K12 hK12=>?_
      obtain rfl:k=s.c.length:=by omega
      refine Amc (bd+39) (k:=2) (es:=(Lq s s.c.length).map Gp) Ay ?_
      rw [An4 (B6 hcl (by simp [AV.isP])) (by simp (disch:=omega) only [Ac]; exact hfr0 _) (by omega),Ah1 (by rw [List.length_map,Hx (Nat.le_refl _)])]
      simp (disch:=omega) only [Aja,AV.frz,if_neg]
      refine Ak ?_
      simp (disch:=omega) only [amL,sA,sF,↓reduceIte]
      refine hK12 _ ?_
      refine Af ?_
      try simp (disch:=omega) only [amL]
      refine Bj (res:=.tup [.ptr (bd+17) 0,i64 0]) (upd os (bd+17) (some (.cells (Dl s (.p (.sl ((Lq s s.c.length).map Gp))) (loL s s.c.length) (hiL s s.c.length))))) (by first | rfl | (simp (disch:=omega) only [Jv,N7,L8,hpg,Hz,Fr,Hk,List.map_cons,List.map_nil,List.map_append,La,hfr0,Ac,Cg,En,amL,amT,sA,sB,sC,sD,sE,sF,sG,sH,sI,sJ,sK,sL,sM,sN,sO,↓reduceIte,reduceCtorEq]; try rfl)) (by first | ((repeat' first | exact Sub.refl _ | refine Sub.skip (by first | exact hfr0 _ | (simp (disch:=omega) only [Ac]; exact hfr0 _)) ?_ | refine Sub.both ?_); done) | fail) (B6 hcl Ph) ?_ ⟨rfl,rfl⟩
      rw [Kp,Bv,Bv,Cc,Cj]; exact ⟨by rw [Ay]; rfl,AV.lives_p _ _,trivial⟩
   all_goals
    skip
    refine Ab fun K13 hK13=>?_
    refine Aj ?_
    refine Ad fun K14 hK14=>?_
    simp (disch:=omega) only [List.map_cons,List.map_nil,hfr0,Ac,Cg,En,amL,amT,sA,sB,sF,↓reduceIte]
    refine hK14 _ ?_
    refine Ad fun K15 hK15=>?_
    simp (disch:=omega) only [List.map_cons,List.map_nil,Ac,amL,amT,sA,sB,sF,↓reduceIte]
    repeat' first | (refine Aw (by kernel_rfl) rfl (Aki s (s.c.getD k default) hS.t (List.all_eq_true.1 hS.c _ (Py default (by omega)))) (by first | exact .inl rfl | exact .inr (.inl rfl)) ?_ ; simp (disch:=omega) only [hfr0,Ac,Cg,amL,amT,sA,sB,sF,↓reduceIte])
    refine hK15 _ ?_
    refine Ab fun K16 hK16=>?_
    refine Mp [] [35,36,38,41] (by kernel_rfl) (by kernel_rfl) (by kernel_rfl) ⟨by (simp (disch:=omega) only [Ac]; exact hfr0 _),by (simp (disch:=omega) only [Ac]; exact hfr0 _),by (simp (disch:=omega) only [Ac]; exact hfr0 _),by (simp (disch:=omega) only [Ac]; exact hfr0 _),trivial⟩ ?_
    have hln:=Hx (s:=s) (k:=k) (by omega)
    have hlo:=Wn (s:=s) (k:=k) (by omega) hn
    have hhi:=Aca (s:=s) (k:=k) (by omega) hn
    simp (disch:=omega) only [List.length_append,hlo,hhi,Jv,N7,L8,hpg,Hz,Fr,Hk,List.map_cons,List.map_nil,List.map_append,La,hfr0,Ac,amL,amT,sA,sB,sC,sE,sF,↓reduceIte,reduceCtorEq]
    refine hK16 _ ?_
    refine Mp [.sto [8] 52,.sto [48] 52] [46,47,48,49,51,52,54,55] (by kernel_rfl) (by kernel_rfl) (by kernel_rfl) ⟨by (simp (disch:=omega) only [Ac]; exact hfr0 _),by (simp (disch:=omega) only [Ac]; exact hfr0 _),by (simp (disch:=omega) only [Ac]; exact hfr0 _),by (simp (disch:=omega) only [Ac]; exact hfr0 _),by (simp (disch:=omega) only [Ac]; exact hfr0 _),by (simp (disch:=omega) only [Ac]; exact hfr0 _),by (simp (disch:=omega) only [Ac]; exact hfr0 _),by (simp (disch:=omega) only [Ac]; exact hfr0 _),trivial⟩ ?_
    have hlo:=Wn (s:=s) (k:=k) (by omega) hn
    have hhi:=Aca (s:=s) (k:=k) (by omega) hn
    simp (disch:=omega) only [List.length_append,List.length_set,hlo,hhi,Ac,Cg,amL,amT,sA,sB,sE,sF,sH,↓reduceIte,reduceCtorEq]
    refine ⟨by simp [Cf.ok,Mm,T,AV.known,AV.clean],?_⟩
    all_goals
     skip
     refine hK13 _ ?_
     refine Ak ?_
     simp (disch:=omega) only [amL,amT,sA,sF,↓reduceIte]
     refine hK9 (k+1) _ ?_ ?_ (F5 ?_ ?_ ?_ ?_)
     all_goals (try simp (disch:=omega) only [Ac,amL,sF,↓reduceIte])
     all_goals first | omega | exact Z8 (B6 hcl (by simp [AV.isP])) (by omega) | exact Agz (by omega) (by omega) (by omega) (by omega) (by omega) (hfr0 7) (hfr0 8) (hfr0 38) (congrArg (fun c=>some (AO.cells c)) (Adz (by omega) hn)) (congrArg (fun c=>some (AO.arr 2 c)) (Ai8 (by omega))) | trace_state
theorem Al6 {s:Sto} (hS:Ng s):Bo Try.prog 12 [avO s] (.tup [.p (.sl ((Lq s s.c.length).map Gp)),i64 0]):=by
  refine A0 (v:=[52]) (q:=[]) (N:=18) (rs:=[.tmp 2,.tmp 3]) Try.func12 rfl rfl rfl rfl rfl ?_
  refine Ad fun K1 hK1=>?_
  simp (disch:=omega) only [amL,sA,↓reduceIte]
  refine hK1 _ ?_
  refine Ad fun K2 hK2=>?_
  simp (disch:=omega) only [amL,amT,sA,sB,sF,↓reduceIte]
  refine A9 [(1,.ptr 1 0)] (by decide) (Ada hS (bd:=18)) (Gg rfl) (by decide) (fun res os2 hR hcl2 hlv2=>?_)
  obtain ⟨rfl,rfl⟩:=hR
  simp (disch:=omega) only [amL,sA,sB,sF,↓reduceIte]
  refine hK2 _ ?_
  refine Ab fun K3 hK3=>?_
  refine Ad fun K4 hK4=>?_
  simp (disch:=omega) only [amL,amT,sA,↓reduceIte]
  refine hK4 _ ?_
  refine Ai rfl (fun h=>MT.x ?_) (fun h=>ME.x ?_)
  all_goals
   first
   |refine MT.mk ?_
    first
    |exact Bool.noConfusion h
    |skip
     try simp only [nrm] at h
     refine Ad fun K5 hK5=>?_
     simp (disch:=omega) only [Ac,amL,amT,sA,sB,sC,sD,sE,sF,sG,sH,sI,sJ,sK,sL,sM,sN,sO,↓reduceIte,reduceCtorEq]
     refine hK5 _ ?_
     refine Af ?_
     try simp (disch:=omega) only [Ac,amL,amT,sA,sB,sC,sD,sE,sF,sG,sH,sI,sJ,sK,sL,sM,sN,sO,↓reduceIte,reduceCtorEq]
     all_goals first | rfl | trace_state
   |refine ME.mk ?_
    first
    |exact Bool.noConfusion h
    |skip
     try simp only [nrm] at h
     refine Am ?_
     refine hK3 _ ?_
  all_goals
   skip
   refine Ad fun K6 hK6=>?_
   simp (disch:=omega) only [amL,amT,sA,sF,↓reduceIte,reduceCtorEq]
   refine hK6 _ ?_
   refine Af ?_
   try simp (disch:=omega) only [amL,sF,↓reduceIte]
   all_goals first | rfl | trace_state
theorem afP : Qv Try.prog "proof.go:35" "proof.go:36" 22 3 162 4 159 160 112 := ⟨⟨_, Try.func160, rfl, rfl, rfl, by kernel_rfl⟩, ⟨_, Try.func112, rfl, rfl, rfl, by kernel_rfl⟩⟩
theorem Aqa {s:Sto} {es:List (List PV)} {lo hi:List Int} {last n:Int} {nl nb nw:Nat} {os:Nat→Option AO} {bd:Nat} (h6:s.c.length≤6) (hn:os nl=some (.cells [i64 last])) (hb:os nb=some (.cells [.ptr nw 0])) (hw:os nw=some (.cells (Dl s (.p (.sl es)) lo hi))) :
  Bs Try.prog bd (.fn (.func 113) [] [.ptr nl 0,.ptr nb 0]) [i64 n] os fun res os'=>res=bl (Mz ((s.c.length:Int) - 1) last n).2∧os'=upd os nl (some (.cells [i64 n])):=by
 refine B9 (v:=[]) (q:=[]) (N:=19) (rs:=[.tmp 4]) Try.func113 rfl (by kernel_rfl) rfl rfl (fun hcl hfree=>?_)
 refine Ad fun K1 hK1=>?_
 simp (disch:=omega) only [amL,sA,sB]
 refine hK1 _ ?_
 refine Ab fun K2 hK2=>?_
 refine Bx (by kernel_rfl) (by kernel_rfl) ?_
 simp (disch:=omega) only [hn,hb,hw,amL,amT,sA,sF,↓reduceIte,reduceCtorEq]
 repeat' first | (refine Aw (by kernel_rfl) rfl (My _ _ _) (by first | exact .inl rfl | exact .inr (.inl rfl)) ?_ ; simp (disch:=omega) only [amL,sA,↓reduceIte])
 refine hK2 _ ?_
 refine Ad fun K3 hK3=>?_
 simp (disch:=omega) only [hn,amL,amT,sA,sF,↓reduceIte,reduceCtorEq]
 refine hK3 _ ?_
 refine Ad fun K4 hK4=>?_
 simp (disch:=omega) only [amL,sA,sF,↓reduceIte]
 refine hK4 _ ?_
 refine Af ?_
 try simp (disch:=omega) only [amL]
 refine Bj (res:=bl _) (upd os nl (some (.cells [i64 n]))) (by simp (disch:=omega) only [amL,↓reduceIte]; try rfl) (Sub.refl _) (Ce hcl (by rw [Dh,Bv,Cc]; exact ⟨AV.lives_p _ _,trivial⟩)) (AV.lives_p _ _) ⟨rfl,rfl⟩
theorem Asu {l:List Int} {s:Sto} {es:List (List PV)} {lo hi:List Int} {nl nb nw:Nat} (h6:s.c.length≤6) (d1:nb≠nl) (d2:nw≠nl):Gq Try.prog (.fn (.func 113) [] [.ptr nl 0,.ptr nb 0]) (fun n=>n=nl∨n=nb∨n=nw) i64 l (fun last os=>os nl=some (.cells [i64 last])∧os nb=some (.cells [.ptr nw 0])∧os nw=some (.cells (Dl s (.p (.sl es)) lo hi))) (Mz ((s.c.length:Int) - 1)) where
 live s os h:=by rw [Ex,Cc,Bv,Bv,Cc,Cj,Cj,h.1,h.2.1]; exact ⟨trivial,rfl,rfl,trivial⟩
 stable s os os' h h2:=⟨(h2 nl (.inl rfl)).trans h.1,(h2 nb (.inr (.inl rfl))).trans h.2.1,(h2 nw (.inr (.inr rfl))).trans h.2.2⟩
 foot z os n h hn:=by
  rcases hn with rfl | rfl | rfl
  ·exact ⟨_,h.1,fun m hm=>by simp [AO.clean,AV.clean,AV.clean.cleanL] at hm⟩
  ·exact ⟨_,h.2.1,fun m hm=>by simp [AO.clean,AV.clean,AV.clean.cleanL] at hm; exact .inr (.inr hm.symm)⟩
  ·refine ⟨_,h.2.2,fun m hm=>?_⟩
   have hc:AV.clean.cleanL m (Dl s (.p (.sl es)) lo hi)=true:=(Bl m _).2 fun i x hx=>Mo (Ph x (List.mem_of_getElem? hx)) m
   have hm:AV.clean.cleanL m (Dl s (.p (.sl es)) lo hi)=false:=hm
   rw [hc] at hm; cases hm
 call s x os bd _ h _:=by
  refine Bs.mono (Aqa h6 h.1 h.2.1 h.2.2) ?_
  rintro r os' ⟨rfl,rfl⟩
  exact ⟨rfl,⟨Ay,by rw [Ac d1]; exact h.2.1,by rw [Ac d2]; exact h.2.2⟩,fun n hn=>Ac (fun e=>hn (.inl e))⟩
theorem Aq7 {l:List Int} {s:Sto} {es:List (List PV)} {lo hi:List Int} {nl nb nw:Nat} {os:Nat→Option AO} {bd:Nat} (hl:l.length < 1000000) (h6:s.c.length≤6) (d1:nb≠nl) (d2:nw≠nl) (h:os nl=some (.cells [i64 (-1)])) (h2:os nb=some (.cells [.ptr nw 0])) (h3:os nw=some (.cells (Dl s (.p (.sl es)) lo hi))) :
    Bs Try.prog bd (.fn (.func 112) [] []) [isl l,.fn (.func 113) [] [.ptr nl 0,.ptr nb 0]] os fun res os'=>res=bl (Cz ((s.c.length:Int) - 1) (-1) l)∧os' nw=os nw∧∀ n,¬ (n=nl∨n=nb∨n=nw)→os' n=os n:=by
  refine Bs.mono (Tb Aoa An8 afP (by simp only [amT]; rfl) hl (Asu (es:=es) (lo:=lo) (hi:=hi) (nw:=nw) h6 d1 d2) (fun m hm=>?_) (s:=-1) (bd:=bd) ⟨h,h2,h3⟩) ?_
  · by_cases e:m=nl
    · exact .inl e
    · by_cases e2:m=nb
      · exact .inr (.inl e2)
      · exfalso
        simp [AV.clean,AV.clean.cleanL] at hm
        omega
  · rintro r os' ⟨h1,⟨h4,h5,h7⟩,h8⟩
    exact ⟨by rw [h1,Kx (by omega) l (-1) (by omega) (by omega)],h7.trans h3.symm,h8⟩
theorem Ab5 {l:List Int} {s:Sto} {es:List (List PV)} {lo hi:List Int} {nw:Nat} {os:Nat→Option AO} {bd:Nat} (hl:l.length < 1000000) (h6:s.c.length≤6) (hw:os nw=some (.cells (Dl s (.p (.sl es)) lo hi))) :
    Bs Try.prog bd (.fn (.func 55) [] []) [.ptr nw 0,isl l] os fun res os'=>res=bl (decide (0 < (l.length:Int))&&Cz ((s.c.length:Int) - 1) (-1) l)∧os'=os:=by
  refine B9 (v:=[112]) (q:=[]) (N:=14) (rs:=[.tmp 4]) Try.func55 rfl (by kernel_rfl) rfl rfl (fun hcl hfree=>?_)
  have hfr0:∀ k,os (bd+k)=none:=fun k=>hfree _ (by omega)
  have hb:=Bb hfree hw
  refine Ad fun K1 hK1=>?_
  simp (disch:=omega) only [hfr0,amL,sA,sB,↓reduceIte]
  refine hK1 _ ?_
  refine Ad fun K2 hK2=>?_
  simp (disch:=omega) only [hfr0,Ac,amL,amT,sA,sM,↓reduceIte]
  refine hK2 _ ?_
  refine Ad fun K3 hK3=>?_
  simp (disch:=omega) only [amL,amT,sA,sF,sM,↓reduceIte,reduceCtorEq]
  repeat' first | (refine Ck (fun h=>?_) (fun h=>?_) <;> simp (disch:=omega) only [h,amL,sA,sF,sM,↓reduceIte,reduceCtorEq]) | (refine Bp (fun h=>?_) (fun h=>?_) <;> simp (disch:=omega) only [h,hfr0,Ac,amL,amT,sA,sB,sC,sD,sE,sF,sG,sH,sI,sJ,sK,sL,sM,sN,sO,↓reduceIte,reduceCtorEq]) | (refine A9 [(9,bl true)] (by decide) (Aq7 (l:=l) (s:=s) (es:=es) (lo:=lo) (hi:=hi) (nl:=bd+5) (nb:=bd+2) (nw:=nw) (bd:=bd+14) hl h6 (by omega) (by omega) Ay (by simp (disch:=omega) only [Ac,Ay]) (by simp (disch:=omega) only [Ac]; exact hw)) (fun q hq=>by simp (disch:=omega) only [Ac]; exact hfree q (by omega)) (Nat.le_add_right _ _) (fun res os2 hR hcl2 hlv2=>?_) ; obtain ⟨rfl,hw2,hfr2⟩:=hR ; simp (disch:=omega) only [amL,sA,sF,sM,↓reduceIte])
  all_goals
   skip
   refine hK3 _ ?_
   refine Af ?_
   try simp (disch:=omega) only [amL,sM]
   all_goals first
     | (refine Bj (res:=bl _) os (by first | rfl | (simp (disch:=omega) only [hfr0,Ac,amL,amT,sA,sB,sC,sD,sE,sF,sG,sH,sI,sJ,sK,sL,sM,sN,sO,↓reduceIte,reduceCtorEq]; try rfl)) (fun z=>?_) hcl (AV.lives_p _ _) ⟨by rw [decide_eq_true (show 0 < (l.length:Int) by omega),Bool.true_and],rfl⟩
        show os z=none∨os z=os2 z
        by_cases e5:z=bd+5
        · left; subst e5; exact hfr0 5
        · by_cases e2:z=bd+2
          · left; subst e2; exact hfr0 2
          · right
            by_cases e:z=nw
            · subst e; rw [hw2]; simp (disch:=omega) only [Ac]
            · rw [hfr2 z (by omega)]; simp (disch:=omega) only [Ac])
     | (refine Bj (res:=bl false) os rfl (by first | ((repeat' first | exact Sub.refl _ | refine Sub.skip (by first | exact hfr0 _ | (simp (disch:=omega) only [Ac]; exact hfr0 _)) ?_ | refine Sub.both ?_); done) | fail) hcl (AV.lives_p _ _) ⟨by rw [decide_eq_false (show ¬ 0 < (l.length:Int) by omega),Bool.false_and],rfl⟩)
     | trace_state
abbrev At4 (s:Sto) (i:Int):List AV:=[i64 i,avC (s.c.getD i.toNat default)]
theorem At5 {l:List Int} {w:Int} {nw:Nat} {os:Nat→Option AO} {bd:Nat} (hnw:(os nw).isSome=true) :
    Bs Try.prog bd (.fn (.func 161) [] []) [.ptr nw 0,.agg [isl l,i64 w]] os fun res os'=>res=.fn (.func 194) [] [.ptr (bd+3) 0,.ptr (bd+2) 0]∧os'=upd (upd os (bd+2) (some (.cells [.ptr nw 0]))) (bd+3) (some (.cells [isl l,i64 w])):=by
  refine B9 (v:=[]) (q:=[]) (N:=6) (rs:=[.tmp 4]) Try.func161 rfl (by kernel_rfl) rfl rfl (fun hcl hfree=>?_)
  have hfr0:∀ k,os (bd+k)=none:=fun k=>hfree _ (by omega)
  have hb:nw < bd:=by
    cases Nat.lt_or_ge nw bd with
    | inl h=>exact h
    | inr h=>rw [hfree nw h] at hnw; cases hnw
  refine Ad fun K1 hK1=>?_
  simp (disch:=omega) only [hfr0,Ac,amL,sA,sB,sF,↓reduceIte,reduceCtorEq]
  refine hK1 _ ?_
  refine Ad fun K2 hK2=>?_
  simp (disch:=omega) only [amL,sA,sF,↓reduceIte]
  refine hK2 _ ?_
  refine Af ?_
  try simp (disch:=omega) only [amL]
  refine Bj (res:=.fn (.func 194) [] [.ptr (bd+3) 0,.ptr (bd+2) 0]) (upd (upd os (bd+2) (some (.cells [.ptr nw 0]))) (bd+3) (some (.cells [isl l,i64 w]))) rfl (Sub.refl _) (B6 (Ce hcl (by rw [Dh,Bv,Cc,Cj]; exact ⟨by rw [Ac (by omega)]; exact hnw,trivial⟩)) (by simp [AV.isP])) ?_ ⟨rfl,rfl⟩
  rw [Ex]; simp (disch:=omega) only [Cc,Bv,Cj,Ac,Ay,Option.isSome_some,and_self]
theorem Au7 {s:Sto} {es:List (List PV)} {lo hi:List Int} {l:List Int} {w:Int} {yv:AV} {F:Nat→Prop} {σ:Type} {go:σ→Prop} {I:σ→(Nat→Option AO)→Prop} {step:σ→Int→σ × Bool} (hY:Xh Try.prog yv F (At4 s) l go I step) (_:s.c.length≤6) (hl:l.length < 1000000) (hi2:∀ i ∈ l,0≤i∧i < (s.c.length:Int))
    {nb nwb nw:Nat} (f1:¬ F nb) (f2:¬ F nwb) (f3:∀ z os,I z os→os nw=some (.cells (Dl s (.p (.sl es)) lo hi))) {z:σ} {os:Nat→Option AO} {bd:Nat} (o1:os nb=some (.cells [isl l,i64 w])) (o2:os nwb=some (.cells [.ptr nw 0])) (hg:go z) (hI:I z os) :
    Bs Try.prog bd (.fn (.func 194) [] [.ptr nb 0,.ptr nwb 0]) [yv] os fun res os'=>res=.tup []∧I (Dy step z l).1 os'∧∀ n,¬ F n→os' n=os n:=by
  refine B9 (v:=[]) (q:=[]) (N:=26) (rs:=[]) Try.func194 rfl (by kernel_rfl) rfl rfl (fun hcl hfree=>?_)
  have hfreeI:∀ (s1:σ) os1,I s1 os1→(∀ n,¬ F n→os1 n=os n)→∀ n,bd≤n→os1 n=none:=fun s1 os1 h1 h2 n hn=>by
    by_cases hFn:F n
    · obtain ⟨o,h3,_⟩:=hY.foot z os n hI hFn
      have:=Bb hfree h3; omega
    · rw [h2 n hFn]; exact hfree n hn
  have hlvT:∀ (s1:σ) os1,I s1 os1→(∀ n,¬ F n→os1 n=os n)→AV.lives os1 yv∧(os1 nb).isSome=true∧(os1 nwb).isSome=true:=fun s1 os1 h1 h2=>⟨hY.live _ _ h1,by rw [h2 nb f1,o1]; rfl,by rw [h2 nwb f2,o2]; rfl⟩
  refine Ad fun K1 hK1=>?_
  simp (disch:=omega) only [o1,amL,amT,sA,sB,↓reduceIte,reduceCtorEq]
  refine hK1 _ ?_
  refine Aj ?_
  skip
  refine Bh (α:=Nat × σ × (Nat→Option AO)) (fun q=>⟨T [(0,yv),(1,.ptr nb 0),(2,.ptr nwb 0),(7,isl l),(8,i64 l.length),(9,i64 (q.1:Int))],q.2.2⟩) (fun q=>l.length - q.1) (fun q=>q.1≤l.length∧go q.2.1∧I q.2.1 q.2.2∧(Hp q.2.2).closed∧(∀ n,¬ F n→q.2.2 n=os n)∧(Dy step q.2.1 (l.drop q.1)).1=(Dy step z l).1) (0,z,os) ?_ ?_ (fun q hx2 K2 hK2=>?_)
  · exact ⟨Nat.zero_le _,hg,hI,hcl,fun _ _=>rfl,rfl⟩
  · refine F5 ?_ ?_ ?_ ?_ <;> (try simp (disch:=omega) only [o1,amL,sF,↓reduceIte,reduceCtorEq]); all_goals first | exact hcl | exact Sub.refl _ | exact hlvT _ _ hI (fun _ _=>rfl) | exact hY.live _ _ hI | exact ⟨hY.live _ _ hI,by rw [o2]; rfl⟩ | trace_state
  obtain ⟨j,s1,os1⟩:=q; dsimp only at hx2 ⊢; obtain ⟨hj,hg1,hI1,hcl1,hfr1,hal1⟩:=hx2; have p2:=(hfr1 nwb f2).trans o2; have p3:=f3 _ _ hI1
  refine Ad fun K3 hK3=>?_
  simp (disch:=omega) only [amL,amT,sA,sF,↓reduceIte,reduceCtorEq]
  refine hK3 _ ?_
  refine Ab fun K4 hK4=>?_
  refine Ai rfl (fun h=>MT.x ?_) (fun h=>ME.x ?_)
  all_goals
   first
   |refine MT.mk ?_
    first
    |exact Bool.noConfusion h
    |skip
     try simp only [nrm] at h
     refine Am ?_
     refine hK4 _ ?_
   |refine ME.mk ?_
    first
    |exact Bool.noConfusion h
    |skip
     try simp only [nrm] at h
     refine B2 ?_
     try simp (disch:=omega) only [A8,En,o1,amL,amT,sA,sB,sC,sD,sE,sF,sG,sH,sI,sJ,sK,sL,sM,sN,sO,↓reduceIte,reduceCtorEq]
     first
       | (try simp only [Ea,Ds,reduceIte,Dn]
          refine Bj (res:=.tup []) os1 rfl (Sub.refl _) hcl1 (Bk _ rfl) ⟨rfl,?_,hfr1⟩
          rw [← hal1,List.drop_of_length_le (by omega)]; exact hI1)
       | (try simp only [Ea,Ds,Gj,Fl,reduceIte,Dn,H6]
          refine Bj (res:=.tup []) os3 rfl (Sub.refl _) hcl3 (Bk _ rfl) ⟨rfl,?_,hfr4⟩
          rw [← hal1,Lw 0 (show j < l.length by omega)]; simp only [Dy]; rw [if_neg (by simpa using h)]; exact hI3)
       | trace_state
  all_goals
   skip
   refine Ab fun K5 hK5=>?_
   refine Aj ?_
   refine Ad fun K6 hK6=>?_
   simp (disch:=omega) only [A8,amL,amT,sA,sF,↓reduceIte,reduceCtorEq]
   refine hK6 _ ?_
   refine Ad fun K7 hK7=>?_
   have hmem:l.getD j 0 ∈ l:=Py 0 (by omega)
   have hrg:=hi2 _ hmem
   simp (disch:=omega) only [p2,p3,En,amL,amT,sA,sB,sF,↓reduceIte,reduceCtorEq]
   refine A9 [(0,yv),(1,.ptr nb 0),(2,.ptr nwb 0),(7,isl l),(8,i64 l.length),(9,i64 (j:Int))] (by decide) (hY.call s1 (l.getD j 0) os1 bd hmem hg1 hI1 hcl1) (hfreeI _ _ hI1 hfr1) (Nat.le_refl _) (fun res os3 hR hcl3 hlv3=>?_)
   obtain ⟨rfl,hI3,hfr3⟩:=hR
   have hfr4:∀ n,¬ F n→os3 n=os n:=fun n hn=>(hfr3 n hn).trans (hfr1 n hn)
   simp (disch:=omega) only [amL,sA,sF,↓reduceIte,reduceCtorEq]
   refine ⟨hlvT _ _ hI3 hfr4,?_⟩
   refine hK7 _ ?_
   refine Ai rfl (fun h=>MT.x ?_) (fun h=>ME.x ?_)
   all_goals
    first
    |refine MT.mk ?_
     first
     |exact Bool.noConfusion h
     |skip
      try simp only [nrm] at h
      refine Af ?_
      try simp (disch:=omega) only [amL]
      first
        | (try simp only [Ea,Ds,Gj,Fl,reduceIte,Dn,H6]
           refine Bj (res:=.tup []) os1 rfl (Sub.refl _) hcl1 (Bk _ rfl) ⟨rfl,?_,hfr1⟩
           rw [← hal1,List.drop_of_length_le (by omega)]; exact hI1)
        | (try simp only [Ea,Ds,Gj,Fl,reduceIte,Dn,H6]
           refine Bj (res:=.tup []) os3 rfl (Sub.refl _) hcl3 (Bk _ rfl) ⟨rfl,?_,hfr4⟩
           rw [← hal1,Lw 0 (show j < l.length by omega)]; simp only [Dy]; rw [if_neg (by simpa using h)]; exact hI3)
        | trace_state
    |refine ME.mk ?_
     first
     |exact Bool.noConfusion h
     |skip
      try simp only [nrm] at h
      refine Am ?_
      refine hK5 _ ?_
   all_goals
    skip
    refine Ak ?_
    simp (disch:=omega) only [amL,amT,sA,sF,↓reduceIte,reduceCtorEq]
    refine hK2 (j+1,(step s1 (l.getD j 0)).1,os3) _ ?_ ?_ (F5 ?_ ?_ ?_ ?_)
    all_goals (try simp (disch:=omega) only [amL,sF,↓reduceIte,reduceCtorEq])
    all_goals first | omega | exact ⟨by omega,hY.next _ _ hmem hg1 (by simpa using h),hI3,hcl3,hfr4,by rw [← hal1,Lw 0 (show j < l.length by omega)]; simp only [Dy]; rw [if_pos (by simpa using h)]⟩ | exact Sub.refl _ | exact hcl3 | exact hlvT _ _ hI3 hfr4 | trace_state
theorem Abz {P:Program} {r:RB} {N:Nat} (s1:AM.St) {cd rest:Code} {K:AM.St→Prop} {Q Q2:AEx→AM.St→Prop} {s:AM.St} (hQ:∀ s',K s'→Q .normal s') (hK:∀ s',AWP P r N rest s' Q2→K s') (h1:AWP P r N cd s (fun e s'=>e=.normal∧s1.le s')) (h2:∀ K':AM.St→Prop,(∀ s',AWP P r N rest s' Q2→K' s')→K' s1):AWP P r N cd s Q:=
  h1.mono fun e s' ⟨he,hl⟩=>by subst he; exact hQ s' (hK s' (.weaken hl (h2 (fun s=>AWP P r N rest s Q2) fun _ h=>h)))
abbrev Zv:List AV:=[.fn (.func 195) [] [],.fn (.func 196) [] []]
abbrev Aua (k:Nat):AV:=.fn (.func (if k=0 then 195 else 196)) [] []
theorem Aks:Bo Try.prog 162 [] (.agg Zv):=by
  refine A0 (v:=[]) (q:=[]) (N:=4) (rs:=[.cell 0 275]) Try.func162 rfl rfl rfl rfl rfl ?_
  refine Ad fun K1 hK1=>?_
  simp (disch:=omega) only [amL,amT,sA,sB,↓reduceIte]
  refine hK1 _ ?_
  refine Ad fun K2 hK2=>?_
  simp (disch:=omega) only [amL,amT,sA,sB,sE,sF,↓reduceIte,reduceCtorEq]
  refine hK2 _ ?_
  refine Af ?_
  try simp (disch:=omega) only [X5,amL,amT,sB,↓reduceIte,reduceCtorEq]
  skip
theorem Ad3 {esz:Nat→Nat} {ea:Nat→Option Bool} {k:Nat} (hz:esz 274=1) (he:ea 274=some true) (h3:k < 2):Ws esz ea (.agg Zv) (.arr 2 274) (i64 (k:Int))=some (.pure (.agg [Aua k])):=by
  have hk4:k=0∨k=1:=by omega
  simp only [Ws,he,hz]
  rcases hk4 with rfl | rfl <;> rfl
theorem Ao0 (r:Rng):Bo Try.prog 195 [avR r] (i64 r.lo):=by
  refine A0 (v:=[]) (q:=[]) (N:=5) (rs:=[.tmp 2]) Try.func195 rfl rfl rfl rfl rfl ?_
  refine Ad fun K1 hK1=>?_
  simp (disch:=omega) only [amL,sA,↓reduceIte]
  refine hK1 _ ?_
  refine Ad fun K2 hK2=>?_
  simp (disch:=omega) only [amL,amT,sA,sF,↓reduceIte,reduceCtorEq]
  refine hK2 _ ?_
  refine Af ?_
  try simp (disch:=omega) only [amL,↓reduceIte]
  skip
theorem Akk (r:Rng):Bo Try.prog 196 [avR r] (i64 r.hi):=by
  refine A0 (v:=[]) (q:=[]) (N:=5) (rs:=[.tmp 2]) Try.func196 rfl rfl rfl rfl rfl ?_
  refine Ad fun K1 hK1=>?_
  simp (disch:=omega) only [amL,sA,↓reduceIte]
  refine hK1 _ ?_
  refine Ad fun K2 hK2=>?_
  simp (disch:=omega) only [amL,amT,sA,sF,↓reduceIte,reduceCtorEq]
  refine hK2 _ ?_
  refine Af ?_
  try simp (disch:=omega) only [amL,↓reduceIte]
  skip
abbrev tmS (n2 n4 n5:Nat):List (Nat × AV):=[(2,.ptr n2 0),(4,.ptr n4 0),(5,.ptr n5 0)]
abbrev knS (s:Sto):AV:=.p (.sl ((Lq s s.c.length).map Gp))
abbrev Aar (s:Sto) (z:Int × Int × Int) (x:Int) (k:Nat):List AV:=[i64 (if 0 < k then (Dt s z x).1.2.1 else z.2.1),i64 (if 1 < k then (Dt s z x).1.2.2 else z.2.2)]
def Afe (s:Sto) (z:Int × Int × Int) (x:Int):(Int × Int × Int) × Option Code:=((Dt s z x).1,none)
theorem Apg (s:Sto) (z:Int × Int × Int) (x:Int):Aar s z x 0=[i64 z.2.1,i64 z.2.2]:=by simp [Aar]
theorem Apa (s:Sto) (z:Int × Int × Int) (x:Int):Aar s z x 2=[i64 (Dt s z x).1.2.1,i64 (Dt s z x).1.2.2]:=by simp [Aar]
theorem Ais {o1 X:Nat→Option AO} {bdL n4 n5 b7:Nat} {LP c4 c5 c7:Option AO} (x7:X b7=c7) (x5:X n5=c5) (x4:X n4=c4) (xL:X bdL=LP) (hX:∀ q,q≠b7→q≠n5→q≠n4→q≠bdL→o1 q=none∨X q=o1 q):Sub (upd (upd (upd (upd o1 bdL LP) n4 c4) n5 c5) b7 c7) X:=fun q=>by
  by_cases e7:q=b7
  · right; subst e7; rw [Ay,x7]
  · by_cases e5:q=n5
    · right; subst e5; rw [Ac e7,Ay,x5]
    · by_cases e4:q=n4
      · right; subst e4; rw [Ac e7,Ac e5,Ay,x4]
      · by_cases eL:q=bdL
        · right; subst eL; rw [Ac e7,Ac e5,Ac e4,Ay,xL]
        · rw [Ac e7,Ac e5,Ac e4,Ac eL]
          rcases hX q e7 e5 e4 eL with h | h
          · exact .inl h
          · exact .inr h.symm
theorem Ahn {l:List Int} {s:Sto} {lo hi:List Int} {n2 n4 n5 nw bdL:Nat} (h6:s.c.length≤6) (hi2:∀ i ∈ l,0≤i∧i < (s.c.length:Int)) (d2:n2 < bdL) (d4:n4 < bdL) (d5:n5 < bdL) (dw:nw < bdL) (e24:n2≠n4) (e25:n2≠n5) (e45:n4≠n5) (ew4:nw≠n4) (ew5:nw≠n5) (ew2:nw≠n2) {A B:Code} (hcode:(Try.f114.body.bind Jh)=some (A,B)) :
    R2 Try.prog bdL ⟨47,[15,16],A,B,.ready,none⟩ (tmS n2 n4 n5) [195,196] [195,196] (fun q=>q=n4∨q=n5∨q=n2∨q=nw) (At4 s) l (fun (z:Int × Int × Int) os=>os n4=some (.cells [i64 z.1])∧os n5=some (.cells [i64 z.2.1,i64 z.2.2])∧os n2=some (.cells [.ptr nw 0])∧os nw=some (.cells (Dl s (knS s) lo hi))) (Afe s) where
  ready:=rfl
  lenp _:=rfl
  psn q hq:=by
    simp only [List.mem_cons,List.not_mem_nil,or_false] at hq
    rcases hq with rfl | rfl
    · exact (by decide:15 < 47)
    · exact (by decide:16 < 47)
  notF h:=by omega
  tmF q hq:=by
    simp [AO.clean,AV.clean,AV.clean.cleanL] at hq
    omega
  stable z o1 o2 hI he:=⟨(he n4 (.inl rfl)).trans hI.1,(he n5 (.inr (.inl rfl))).trans hI.2.1,(he n2 (.inr (.inr (.inl rfl)))).trans hI.2.2.1,(he nw (.inr (.inr (.inr rfl)))).trans hI.2.2.2⟩
  foot z o1 q hI hq:=by
    rcases hq with rfl | rfl | rfl | rfl
    · exact ⟨_,hI.1,fun m hm=>by simp [AO.clean,AV.clean,AV.clean.cleanL] at hm⟩
    · exact ⟨_,hI.2.1,fun m hm=>by simp [AO.clean,AV.clean,AV.clean.cleanL] at hm⟩
    · exact ⟨_,hI.2.2.1,fun m hm=>by simp [AO.clean,AV.clean,AV.clean.cleanL] at hm; omega⟩
    · exact ⟨_,hI.2.2.2,fun m hm=>by
        exfalso
        have h9:=(Bl m (Dl s (knS s) lo hi)).2 (fun i y hy=>by
          cases hc:y.clean m with
          | true=>rfl
          | false=>
            have h8:=Bk (fun _=>none) (Ph y (List.mem_of_getElem? hy)) m hc
            cases h8)
        have hm':AV.clean.cleanL m (Dl s (knS s) lo hi)=false:=hm
        rw [h9] at hm'; cases hm'⟩
  body z x o1 bd1 hx hI hl hcl1 hfree1 hb1 rl:=by
    have hfr0:∀ k,o1 (bd1+k)=none:=fun k=>hfree1 _ (by omega)
    obtain ⟨i4,i5,i2,iw⟩:=hI
    have hrg:=hi2 x hx
    obtain ⟨LP,hLP⟩:∃ LP:Option AO,LP=some (.loop ⟨47,[15,16],A,B,.busy,none⟩ (tmS n2 n4 n5)):=⟨_,rfl⟩
    have hln:=Hx (s:=s) (Nat.le_refl _)
    have hkn:((Lq s s.c.length).map Gp).getD x.toNat []=Gp (E8 s (s.c.getD x.toNat default)):=by
      rw [Bw (by omega)]
      unfold Lq
      rw [List.take_length,C1 (E8 s) default default (by omega)]
    have b2:=Bb hfree1 i2
    have b4:=Bb hfree1 i4
    have b5:=Bb hfree1 i5
    have bw:=Bb hfree1 iw
    have hclL:∀ {os:Nat→Option AO} {kk:Gn},(Hp os).closed→(os n2).isSome=true→(os n4).isSome=true→(os n5).isSome=true→(Hp (upd os bdL (some (.loop kk (tmS n2 n4 n5))))).closed:=fun {os kk} hc h1 h2 h3=>Ce hc (fun q hq=>by
      have e:q=n2∨q=n4∨q=n5:=by
        simp [AO.clean,AV.clean,AV.clean.cleanL] at hq; omega
      unfold upd
      split
      · rfl
      · rcases e with e | e | e <;> rw [e] <;> assumption)
    have hcl2:(Hp (upd o1 bdL LP)).closed:=by rw [hLP]; exact hclL hcl1 (by rw [i2]; rfl) (by rw [i4]; rfl) (by rw [i5]; rfl)
    cases (show some (_,_)=some (A,B) from hcode)
    show AWP _ _ 47 _ ⟨T [(16,avC (s.c.getD x.toNat default)),(15,i64 x),(2,.ptr n2 0),(4,.ptr n4 0),(5,.ptr n5 0)],o1⟩ _
    refine Ad fun K1 hK1=>?_
    simp (disch:=(first | assumption | omega)) only [amL,sA,sF,↓reduceIte]
    refine hK1 _ ?_
    refine Ak ?_
    simp (disch:=(first | assumption | omega)) only [hl,hfr0,Ac,Cg,amL,amT,sA,sB,sF,↓reduceIte]
    try simp (disch:=(first | assumption | omega)) only [hl,hfr0,Ac,Cg,amL,amT,sA,sB,sC,sD,sE,sF,sG,sH,sI,sJ,sK,sL,sM,sN,sO,↓reduceIte,reduceCtorEq]
    skip
    refine Aj ?_
    refine Ad fun K1 hK1=>?_
    simp (disch:=(first | assumption | omega)) only [i4,Ac,amL,amT,sA,sF,↓reduceIte,reduceCtorEq]
    refine hK1 _ ?_
    refine Ad fun K2 hK2=>?_
    simp (disch:=(first | assumption | omega)) only [amL,sG]
    repeat' first | (refine Aw (by kernel_rfl) rfl (Aks) (by first | exact .inl rfl | exact .inr (.inl rfl)) ?_ ; simp (disch:=(first | assumption | omega)) only [amL,sA])
    refine hK2 _ ?_
    refine Aj ?_
    rw [← hLP]
    refine Bh (α:=Nat) (fun k=>⟨T [(2,.ptr n2 0),(4,.ptr n4 0),(5,.ptr n5 0),(6,i64 x),(7,.ptr (bd1+7) 0),(21,.agg Zv),(22,i64 (k:Int))],upd (upd (upd (upd o1 bdL LP) n4 (some (.cells [i64 (Dt s z x).1.1]))) n5 (some (.cells (Aar s z x k)))) (bd1+7) (some (.cells [i64 (s.c.getD x.toNat default).g,i64 (s.c.getD x.toNat default).t.lo,i64 (s.c.getD x.toNat default).t.hi,i64 (s.c.getD x.toNat default).k.lo,i64 (s.c.getD x.toNat default).k.hi]))⟩) (fun k=>2 - k) (fun k=>k≤2) 0 ?_ ?_ (fun k hx3 K3 hK3=>?_)
    · exact Nat.zero_le _
    · refine F5 ?_ ?_ ?_ ?_ <;> (try simp (disch:=(first | assumption | omega)) only [i2,Ac,amL,sF,↓reduceIte]); all_goals first | exact B6 (B6 (B6 hcl2 (by simp [AV.isP])) (by simp [AV.isP])) (by simp [AV.isP]) | exact Ais (by simp (disch:=omega) only [Ac,Ay]) (by simp (disch:=omega) only [Ac]; rw [i5,Apg]) (by simp (disch:=omega) only [Ay]; first | done | rfl) (by simp (disch:=omega) only [Ac,Ay]) (fun q h1 h2 h3 h4=>.inr (by simp (disch:=omega) only [Ac])) | trace_state
    have hk:=hx3
    refine Ad fun K4 hK4=>?_
    simp (disch:=(first | assumption | omega)) only [amL,amT,sA,sF,↓reduceIte]
    refine hK4 _ ?_
    refine Ab fun K5 hK5=>?_
    refine Ai rfl (fun h=>MT.x ?_) (fun h=>ME.x ?_)
    all_goals
     first
     |refine MT.mk ?_
      first
      |exact Bool.noConfusion h
      |skip
       try simp only [nrm] at h
       refine Am ?_
       refine hK5 _ ?_
     |refine ME.mk ?_
      first
      |exact Bool.noConfusion h
      |skip
       try simp only [nrm] at h
       refine B2 ?_
       try simp (disch:=(first | assumption | omega)) only [i4,i5,i2,iw,hl,hln,hkn,hfr0,Ac,Cg,Pu,Gl,Sq,amL,amT,sA,sB,sC,sD,sE,sF,sG,sH,sI,sJ,sK,sL,sM,sN,sO,↓reduceIte,reduceCtorEq]
       (obtain rfl:k=2:=by omega
        (try simp only [Ea,Ds,Ff,reduceIte,Gl])
        refine Y5 (upd (upd (upd o1 n4 (some (.cells [i64 (Dt s z x).1.1]))) n5 (some (.cells (Aar s z x 2)))) bdL (some (.loop (Abe _ none) (tmS n2 n4 n5)))) (by simp (disch:=omega) only [Ac,Ay]; exact hLP) (fun w=>?_) (hclL (B6 (B6 hcl1 (by simp [AV.isP])) (by simp [AV.isP])) (by simp (disch:=omega) only [Ac]; rw [i2]; rfl) (by rw [Ac e45,Ay]; rfl) (by rw [Ay]; rfl)) ⟨rfl,⟨⟨by simp (disch:=omega) only [Ac,Ay]; first | done | rfl,by simp (disch:=omega) only [Ac,Ay]; first | done | (rw [Apa]; first | done | rfl) | rfl,by simp (disch:=omega) only [Ac]; exact i2,by simp (disch:=omega) only [Ac]; exact iw⟩,by rw [Ay]; first | done | rfl⟩,fun q hq=>by simp (disch:=omega) only [Ac]⟩
        by_cases e1:w=bdL
        · subst e1; right; rw [Ay,Ay] ; first | done | rfl
        · by_cases e2:w=n4
          · subst e2; right; simp (disch:=omega) only [Ac,Ay]
          · by_cases e3:w=n5
            · subst e3; right; simp (disch:=omega) only [Ac,Ay]
            · by_cases e4:w=bd1+7
              · left; subst e4; simp (disch:=omega) only [Ac]; exact hfr0 7
              · right; simp (disch:=omega) only [Ac])
    all_goals
     skip
     refine Ab fun K6 hK6=>?_
     refine Aj ?_
     refine Ad fun K7 hK7=>?_
     have hix:Ws (fun e=>(Aa Try.prog e).sz) (fun e=>(Aa Try.prog e).agg) (.agg Zv) (.arr 2 274) (i64 (k:Int))=some (.pure (.agg [Aua k])):=Ad3 (by simp only [amT]) (by simp only [amT]; rfl) (by omega)
     simp (disch:=(first | assumption | omega)) only [hix,hfr0,Ac,Cg,Pu,amL,amT,sA,sF,↓reduceIte]
     refine hK7 _ ?_
     refine Abz ⟨T [(2,.ptr n2 0),(4,.ptr n4 0),(5,.ptr n5 0),(6,i64 x),(7,.ptr (bd1+7) 0),(21,.agg Zv),(22,i64 (k:Int))],upd (upd (upd (upd o1 bdL LP) n4 (some (.cells [i64 (Dt s z x).1.1]))) n5 (some (.cells (Aar s z x (k+1))))) (bd1+7) (some (.cells [i64 (s.c.getD x.toNat default).g,i64 (s.c.getD x.toNat default).t.lo,i64 (s.c.getD x.toNat default).t.hi,i64 (s.c.getD x.toNat default).k.lo,i64 (s.c.getD x.toNat default).k.hi]))⟩ (fun s' h=>by simpa only [Ff,Hb] using h) hK6 ?_ (fun K6 hK6=>?_)
     · obtain rfl | rfl:k=0∨k=1:=by omega
       · refine X7 14 195 32 (by kernel_rfl) rfl (by kernel_rfl) ?_
         show EL _ _ _ _ [_,_,_,_,_,_,_,_,_,_,_,_,_,_,_,_,_,_,_] _ _
         dsimp only [Acs]
         simp (disch:=(first | assumption | omega)) only [i2,iw,hln,hkn,Ac,amL,amT,sA,sB,sF,sG,sH,sK,sL,sN,↓reduceIte,reduceCtorEq]
         refine Yk (bd:=bd1+47) (by decide) (Hu (fs:=[]) (cs:=[]) (by kernel_rfl) (Ao0 ⟨_,_⟩)) (fun q hq=>by simp (disch:=omega) only [Ac]; exact hfree1 q (by omega)) (Nat.le_add_right _ _) rfl ?_
         simp (disch:=(first | assumption | omega)) only [Ac,amL,amT,sA,sB,sE,sF,sH,sK,sL,sN,↓reduceIte]
         refine ⟨rfl,F5 ?_ ?_ ?_ ?_⟩ <;> (try simp (disch:=(first | assumption | omega)) only [i2,Ac,amL,sF,↓reduceIte])
         all_goals first | exact B6 (B6 (B6 hcl2 (by simp [AV.isP])) (by simp [AV.isP])) (by simp [AV.isP]) | exact Ais (by simp (disch:=omega) only [Ac,Ay]) (by simp (disch:=omega) only [Ay]; first | done | rfl) (by simp (disch:=omega) only [Ac,Ay]) (by simp (disch:=omega) only [Ac,Ay]) (fun q h1 h2 h3 h4=>by
           by_cases h9:q=bd1+9
           · left; subst h9; exact hfr0 9
           · right; simp (disch:=omega) only [Ac]) | trace_state
       · refine X7 14 196 32 (by kernel_rfl) rfl (by kernel_rfl) ?_
         show EL _ _ _ _ [_,_,_,_,_,_,_,_,_,_,_,_,_,_,_,_,_,_,_] _ _
         dsimp only [Acs]
         simp (disch:=(first | assumption | omega)) only [i2,iw,hln,hkn,Ac,amL,amT,sA,sB,sF,sG,sH,sK,sL,sN,↓reduceIte,reduceCtorEq]
         refine Yk (bd:=bd1+47) (by decide) (Hu (fs:=[]) (cs:=[]) (by kernel_rfl) (Akk ⟨_,_⟩)) (fun q hq=>by simp (disch:=omega) only [Ac]; exact hfree1 q (by omega)) (Nat.le_add_right _ _) rfl ?_
         simp (disch:=(first | assumption | omega)) only [Ac,amL,amT,sA,sB,sF,sH,sK,sL,sN,↓reduceIte]
         refine ⟨rfl,F5 ?_ ?_ ?_ ?_⟩ <;> (try simp (disch:=(first | assumption | omega)) only [i2,Ac,amL,sF,↓reduceIte])
         all_goals first | exact B6 (B6 (B6 hcl2 (by simp [AV.isP])) (by simp [AV.isP])) (by simp [AV.isP]) | exact Ais (by simp (disch:=omega) only [Ac,Ay]) (by simp (disch:=omega) only [Ay]; first | done | rfl) (by simp (disch:=omega) only [Ac,Ay]) (by simp (disch:=omega) only [Ac,Ay]) (fun q h1 h2 h3 h4=>by
           by_cases h9:q=bd1+9
           · left; subst h9; exact hfr0 9
           · right; simp (disch:=omega) only [Ac]) | trace_state
     refine hK6 _ ?_
     refine Ak ?_
     simp (disch:=(first | assumption | omega)) only [amL,amT,sA,sF,↓reduceIte]
     refine hK3 (k+1) _ ?_ ?_ (F5 ?_ ?_ ?_ ?_)
     all_goals (try simp (disch:=(first | assumption | omega)) only [i2,Ac,amL,sE,sF,↓reduceIte])
     all_goals first | omega | exact Sub.refl _ | exact B6 (B6 (B6 hcl2 (by simp [AV.isP])) (by simp [AV.isP])) (by simp [AV.isP]) | trace_state
theorem Ahq (s:Sto):∀ (l:List Int) (z:Int × Int × Int),(Dy (fun (p:(Int × Int × Int) × Option Code) x=>(Afe s p.1 x,(Afe s p.1 x).2.isNone)) (z,none) l).1=((Dy (Dt s) z l).1,none)
  | [],z=>rfl
  | x :: l,z=>by
    show (if (Afe s z x).2.isNone=true then Dy _ (Afe s z x) l else _).1=((if (Dt s z x).2=true then Dy _ (Dt s z x).1 l else _).1,none)
    rw [if_pos (show (Afe s z x).2.isNone=true from rfl),if_pos (show (Dt s z x).2=true from rfl)]
    exact Ahq s l (Dt s z x).1
theorem Ab3 {P:Program} {s:AM.St} {i j n m off off2:Nat} {ty ty2:TypeId} {g g2:Bool} {cs cs2:List AV} {x y:AV} (h1:s.t i=.ptr n off) (h2:(Aa P ty).agg=some g) (h3:s.o n=some (.cells cs)) (h4:Al g (Aa P ty).sz (cs.drop off)=some x) (k1:s.t j=.ptr m off2) (k2:(Aa P ty2).agg=some g2) (k3:s.o m=some (.cells cs2)) (k4:Al g2 (Aa P ty2).sz (cs2.drop off2)=some y):(Dz P s [.cell i ty,.cell j ty2]).map Ey=some (.tup [x,y]):=by
  simp only [Dz,N3,h1,h2,h3,h4,k1,k2,k3,k4,Option.map_some]; rfl
abbrev Rj (s:Sto) (w:Int) (l:List Int):Int × Int × Int:=(Dy (Dt s) (w,0,0) l).1
theorem Akt {l:List Int} {s:Sto} {lo hi:List Int} {w:Int} {nw:Nat} {os:Nat→Option AO} {bd:Nat} (h6:s.c.length≤6) (hl:l.length < 1000000) (hi2:∀ i ∈ l,0≤i∧i < (s.c.length:Int)) (hw:os nw=some (.cells (Dl s (knS s) lo hi))) :
    Bs Try.prog bd (.fn (.func 114) [] []) [.ptr nw 0,.agg [isl l,i64 w]] os fun res os'=>res=.tup [i64 (Rj s w l).1,.agg [i64 (Rj s w l).2.1,i64 (Rj s w l).2.2]]∧os'=os:=by
  refine Afn (v:=[161]) (q:=[]) (N:=47) (rs:=[.cell 4 3,.cell 5 231]) Try.func114 rfl (by kernel_rfl) rfl rfl (fun hcl hfree=>?_)
  have hfr0:∀ k,os (bd+k)=none:=fun k=>hfree _ (by omega)
  have hb:=Bb hfree hw
  obtain ⟨A,B,hcode⟩:∃ A B,(Try.f114.body.bind Jh)=some (A,B):=⟨_,_,rfl⟩
  refine Dw fun K1 hK1=>?_
  refine Ak ?_
  simp (disch:=(first | assumption | omega)) only [hfr0,Ac,amL,amT,sA,sB,sF,↓reduceIte,reduceCtorEq]
  refine hK1 _ ?_
  refine Dw fun K2 hK2=>?_
  refine Ak ?_
  simp (disch:=(first | assumption | omega)) only [Ac,amL,amT,sA,sF,↓reduceIte,reduceCtorEq]
  refine hK2 _ ?_
  refine Tp fun K3 hK3=>?_
  refine Dw fun K4 hK4=>?_
  refine Ak ?_
  simp (disch:=(first | assumption | omega)) only [Ac,amL,amT,sA,sB,sF,↓reduceIte]
  repeat' first | (refine A9 [(2,.ptr (bd+2) 0),(3,.ptr (bd+3) 0),(4,.ptr (bd+4) 0),(5,.ptr (bd+5) 0)] (by decide) (At5 (l:=l) (w:=w) (nw:=nw) (bd:=bd+47) (by simp (disch:=omega) only [Ac]; rw [hw]; rfl)) (fun q hq=>by simp (disch:=omega) only [Ac]; exact hfree q (by omega)) (Nat.le_add_right _ _) (fun res os2 hR hcl2 hlv2=>?_) ; obtain ⟨rfl,rfl⟩:=hR ; simp (disch:=(first | assumption | omega)) only [Ac,amL,sF,↓reduceIte])
  refine hK4 _ ?_
  refine T1 ?_
  have hRd:=Ahn (l:=l) (s:=s) (lo:=lo) (hi:=hi) (n2:=bd+2) (n4:=bd+4) (n5:=bd+5) (nw:=nw) (bdL:=bd+60) h6 hi2 (by omega) (by omega) (by omega) (by omega) (by omega) (by omega) (by omega) (by omega) (by omega) (by omega) hcode
  cases (show some (_,_)=some (A,B) from hcode)
  refine Mb (bd:=bd+60) (tm:=tmS (bd+2) (bd+4) (bd+5)) rfl (fun q hq=>by simp (disch:=omega) only [Ac]; exact hfree q (by omega)) (Nat.le_add_right _ _) rfl (by kernel_rfl) (fun i=>R3 (by simp (disch:=(first | assumption | omega)) only [amL,sF,↓reduceIte]) i) (Acj (by simp (disch:=(first | assumption | omega)) only [amL,sF,↓reduceIte])) (Au7 (w:=w) (F:=fun q=>(q=bd+4∨q=bd+5∨q=bd+2∨q=nw)∨q=bd+60) hRd.yields h6 hl hi2 (nb:=bd+47+3) (nwb:=bd+47+2) (nw:=nw) (by omega) (by omega) (fun z os hI=>hI.1.2.2.2) (z:=((w,0,0),(none:Option Code))) (bd:=bd+60+1) (by simp (disch:=omega) only [Ac,Ay]) (by simp (disch:=omega) only [Ac,Ay]) rfl ⟨⟨by simp (disch:=omega) only [Ac,Ay],by simp (disch:=omega) only [Ac,Ay],by simp (disch:=omega) only [Ac,Ay],by simp (disch:=omega) only [Ac]; exact hw⟩,by rw [Ay]; rfl⟩) (fun res os2 hR hcl2=>?_)
  obtain ⟨rfl,hI2,hfr2⟩:=hR
  rw [Ahq] at hI2
  obtain ⟨⟨q4,q5,q2,qw⟩,hI4⟩:=hI2
  dsimp only at q4 q5 q2 qw hI4
  refine ⟨_,hI4,by simp [],?_⟩
  show Kv 0 _ .normal _
  simp only [Ff,Hb,tmS]
  refine hK3 _ ?_
  refine Dw fun K5 hK5=>?_
  refine Mp [.sto [5] 4] [45] (by kernel_rfl) (by kernel_rfl) (by kernel_rfl) ⟨by (show upd os2 (bd+60) _ (bd+45)=none; rw [Ac (by omega),hfr2 _ (by omega)]; simp (disch:=omega) only [Ac]; exact hfr0 45),trivial⟩ ?_
  simp (disch:=(first | assumption | omega)) only [q4,q5,Ac,amL,amT,sA,sB,sF,↓reduceIte]
  refine ⟨by simp [Cf.ok,Mm,T,AV.known,AV.clean],?_⟩
  all_goals
   skip
   refine hK5 _ ?_
   refine L0 ?_
   refine Af ?_
   try simp (disch:=(first | assumption | omega)) only [amL]
   refine Bj (res:=.tup [i64 (Rj s w l).1,.agg [i64 (Rj s w l).2.1,i64 (Rj s w l).2.2]]) os (Ab3 (n:=bd+4) (off:=0) (g:=false) (cs:=[i64 (Rj s w l).1]) (cs2:=[i64 (Rj s w l).2.1,i64 (Rj s w l).2.2]) (m:=bd+5) (off2:=0) (g2:=true) rfl (by simp only [amT]; rfl) (by show upd _ _ _ _=_; simp (disch:=omega) only [Ac,Ay]) (by simp only [amT]; rfl) rfl (by simp only [amT]; rfl) (by show upd _ _ _ _=_; simp (disch:=omega) only [Ay]) (by simp only [amT]; rfl)) (fun z=>?_) hcl (Bk _ rfl) ⟨rfl,rfl⟩
   show os z=none∨os z=_
   by_cases hz:bd≤z
   · exact .inl (hfree z hz)
   · right
     by_cases e:z=nw
     · subst e; simp (disch:=omega) only [Ac]; rw [qw,hw]
     · simp (disch:=omega) only [Ac]
       rw [hfr2 z (by omega)]
       simp (disch:=omega) only [Ac]
theorem Adn {P:Program} {s:AM.St} {i n off:Nat} {ty:TypeId} {g:Bool} {cs:List AV} {x:AV} (h1:s.t i=.ptr n off) (h2:(Aa P ty).agg=some g) (h3:s.o n=some (.cells cs)) (h4:Al g (Aa P ty).sz (cs.drop off)=some x):(Dz P s [.cell i ty]).map Ey=some x:=by
  simp only [Dz,N3,h1,h2,h3,h4,Option.map_some]; rfl
theorem Yl {l:List Int} {s:Sto} {lo hi:List Int} {w g a b:Int} {nw:Nat} {os:Nat→Option AO} {bd:Nat} (h6:s.c.length≤6) (hl:l.length < 1000000) (hi2:∀ i ∈ l,0≤i∧i < (s.c.length:Int)) (hw:os nw=some (.cells (Dl s (knS s) lo hi))) (hz:Rj s w l=(g,a,b)) (hg:0 < g∧g≤1000000000) (ha:0≤a∧a≤1000000000) (hb:0≤b∧b≤1000000000) :
    Bs Try.prog bd (.fn (.func 57) [] []) [.ptr nw 0,.agg [isl l,i64 w]] os fun res os'=>res=avR ⟨a / g,b / g⟩∧os'=os:=by
  refine B9 (v:=[114]) (q:=[]) (N:=22) (rs:=[.cell 4 52]) Try.func57 rfl (by kernel_rfl) rfl rfl (fun hcl hfree=>?_)
  have hfr0:∀ k,os (bd+k)=none:=fun k=>hfree _ (by omega)
  have hbw:=Bb hfree hw
  have hs:=Akt (w:=w) (nw:=nw) (lo:=lo) (hi:=hi) (bd:=bd+22) (os:=upd (upd os (bd+3) (some (.cells [isl l,i64 w]))) (bd+4) (some (.cells [i64 0,i64 0]))) h6 hl hi2 (by simp (disch:=omega) only [Ac]; exact hw)
  rw [hz] at hs
  have da:=Ajh (m:=a) (s:=g) (by omega) (by omega)
  have db:=Ajh (m:=b) (s:=g) (by omega) (by omega)
  have wa:IntKind.i64.wrap (a / g)=a / g:=Dk (by omega) (by omega)
  have wb:IntKind.i64.wrap (b / g)=b / g:=Dk (by omega) (by omega)
  refine Ad fun K1 hK1=>?_
  simp (disch:=omega) only [hfr0,Ac,amL,amT,sA,sB,↓reduceIte,reduceCtorEq]
  refine hK1 _ ?_
  refine Ad fun K2 hK2=>?_
  simp (disch:=omega) only [Ac,amL,amT,sA,sB,sF,↓reduceIte,reduceCtorEq]
  repeat' first | (refine Ca (bd:=bd+22) (by decide) hs (fun q hq=>by simp (disch:=omega) only [Ac]; exact hfree q (by omega)) (Nat.le_add_right _ _) rfl ?_ ; simp (disch:=omega) only [hfr0,Ac,amL,amT,sA,sB,sF,↓reduceIte])
  refine hK2 _ ?_
  refine Ab fun K3 hK3=>?_
  refine Mp [] [13,14,17,18,21] (by kernel_rfl) (by kernel_rfl) (by kernel_rfl) ⟨by (simp (disch:=omega) only [Ac]; exact hfr0 _),by (simp (disch:=omega) only [Ac]; exact hfr0 _),by (simp (disch:=omega) only [Ac]; exact hfr0 _),by (simp (disch:=omega) only [Ac]; exact hfr0 _),by (simp (disch:=omega) only [Ac]; exact hfr0 _),trivial⟩ ?_
  simp (disch:=omega) only [Ac,wa,wb,amL,amT,sA,sB,sE,sF,sH,sK,sL,sN,↓reduceIte]
  refine hK3 _ ?_
  refine Af ?_
  try simp (disch:=omega) only [amL]
  refine Bj (res:=avR ⟨a / g,b / g⟩) os (Adn (n:=bd+4) (off:=0) (g:=true) (cs:=[i64 (a / g),i64 (b / g)]) rfl (by simp only [amT]; rfl) (by show upd _ _ _ _=_; simp (disch:=omega) only [Ay]) (by simp only [amT]; rfl)) (fun z=>?_) hcl (Bk _ rfl) ⟨rfl,rfl⟩
  show os z=none∨os z=_
  by_cases hz:bd≤z
  · exact .inl (hfree z hz)
  · right; simp (disch:=omega) only [Ac]
theorem Am7 {s:Sto} (h:Ng s) {i:Int} (hi:0≤i∧i < (s.c.length:Int)) (hs:∀ c ∈ s.c,(0≤(E8 s c).lo∧(E8 s c).lo≤2000)∧0≤(E8 s c).hi∧(E8 s c).hi≤2000):SmS s i:=by
  have hm:s.c.getD i.toNat default ∈ s.c:=Py default (by omega)
  have h1:=List.all_eq_true.1 h.c _ hm
  simp only [okC,inB,Bool.and_eq_true,decide_eq_true_eq] at h1
  exact ⟨by omega,hs _ hm⟩
theorem Aiw {s:Sto} (hS:Ng s) {l:List Int} {w:Int} (hs:∀ c ∈ s.c,(0≤(E8 s c).lo∧(E8 s c).lo≤2000)∧0≤(E8 s c).hi∧(E8 s c).hi≤2000) (hl:0 < l.length∧l.length≤6) (hr:Cz ((s.c.length:Int) - 1) (-1) l=true) (hw:0≤w∧w≤99) (hg:0 < w+smG s l) :
    Bo Try.prog 15 [avO s,isl l,i64 w] (.tup [avR ⟨smS s (·.lo) l / (w+smG s l),smS s (·.hi) l / (w+smG s l)⟩,i64 0]):=by
  have h6:=hS.n
  have hrb:=(N9 l (-1) hr).1
  have hi2:∀ i ∈ l,0≤i∧i < (s.c.length:Int):=fun i hi=>by have:=hrb i hi; omega
  have hz:=Zl l w 0 0 (fun i hi=>Am7 hS (hi2 i hi) hs) hw.1 (by omega) (Int.le_refl _) (by omega) (Int.le_refl _) (by omega)
  have hz2:Rj s w l=(w+smG s l,smS s (·.lo) l,smS s (·.hi) l):=by rw [Rj,hz,Int.zero_add,Int.zero_add]
  have hbn:=Ahr l (fun i hi=>Am7 hS (hi2 i hi) hs)
  have hbl:(decide (0 < (l.length:Int))&&Cz ((s.c.length:Int) - 1) (-1) l)=true:=by rw [hr,decide_eq_true (show 0 < (l.length:Int) by omega)]; rfl
  have hwb:inB w 0 99=true:=by simp only [inB,Bool.and_eq_true,decide_eq_true_eq]; exact hw
  refine A0 (v:=[52,55,57]) (q:=[]) (N:=35) (rs:=[.cell 6 52,.tmp 7]) Try.func15 rfl rfl rfl rfl rfl ?_
  refine Ad fun K1 hK1=>?_
  simp (disch:=omega) only [amL,amT,sA,sB,sF,↓reduceIte]
  refine hK1 _ ?_
  refine Ad fun K2 hK2=>?_
  simp (disch:=omega) only [amL,amT,sA,sB,sF,sG,↓reduceIte]
  refine A9 [(1,isl l),(2,i64 w),(3,.ptr 3 0),(6,.ptr 6 0),(7,i64 0)] (by decide) (Ada hS (bd:=35)) (Gg rfl) (by decide) (fun res os2 hR hcl2 hlv2=>?_)
  obtain ⟨rfl,rfl⟩:=hR
  simp (disch:=omega) only [amL,sA,sB,sF,↓reduceIte,reduceCtorEq]
  refine hK2 _ ?_
  refine Ab fun K3 hK3=>?_
  refine Aj ?_
  refine Ad fun K4 hK4=>?_
  simp (disch:=omega) only [amL,amT,sA,↓reduceIte]
  refine hK4 _ ?_
  refine Ai rfl (fun h=>MT.x ?_) (fun h=>ME.x ?_)
  all_goals
   first
   |refine MT.mk ?_
    first
    |exact Bool.noConfusion h
    |skip
     try simp only [nrm] at h
     refine Ad fun K5 hK5=>?_
     simp (disch:=omega) only [Ac,hwb,amL,amT,sA,sB,sC,sD,sE,sF,sG,sH,sI,sJ,sK,sL,sM,sN,sO,↓reduceIte,reduceCtorEq]
     refine hK5 _ ?_
     refine Af ?_
     try simp (disch:=omega) only [Ac,hwb,amL,amT,sA,sB,sC,sD,sE,sF,sG,sH,sI,sJ,sK,sL,sM,sN,sO,↓reduceIte,reduceCtorEq]
     all_goals first | rfl | trace_state
   |refine ME.mk ?_
    first
    |exact Bool.noConfusion h
    |skip
     try simp only [nrm] at h
     refine Ad fun K6 hK6=>?_
     simp (disch:=omega) only [amL,sA,sF,sG,↓reduceIte]
     repeat' first | (refine Ck (fun h=>?_) (fun h=>?_) <;> simp (disch:=omega) only [h,Ac,hwb,amL,amT,sA,sB,sC,sD,sE,sF,sG,sH,sI,sJ,sK,sL,sM,sN,sO,↓reduceIte,reduceCtorEq]) | (refine Bp (fun h=>?_) (fun h=>?_) <;> simp (disch:=omega) only [h,Ac,hwb,amL,amT,sA,sB,sC,sD,sE,sF,sG,sH,sI,sJ,sK,sL,sM,sN,sO,↓reduceIte,reduceCtorEq]) | (refine Aw (by kernel_rfl) rfl (My _ _ _) (by first | exact .inl rfl | exact .inr (.inl rfl)) ?_ ; simp (disch:=omega) only [hwb,amL,sA,sF,↓reduceIte]) | (refine Ca (bd:=90) (by decide) (Ab5 (l:=l) (s:=s) (nw:=52) (bd:=90) (by omega) h6 rfl) (Gg rfl) (by decide) rfl ?_ ; rw [hbl] ; simp (disch:=omega) only [amL,sA,sF,sG,↓reduceIte])
     all_goals
      skip
      refine hK6 _ ?_
      refine Ai rfl (fun h=>MT.x ?_) (fun h=>ME.x ?_)
      all_goals
       first
       |refine MT.mk ?_
        first
        |exact Bool.noConfusion h
        |skip
         try simp only [nrm] at h
         refine Ad fun K7 hK7=>?_
         simp (disch:=omega) only [Ac,hwb,amL,amT,sA,sB,sC,sD,sE,sF,sG,sH,sI,sJ,sK,sL,sM,sN,sO,↓reduceIte,reduceCtorEq]
         refine hK7 _ ?_
         refine Af ?_
         try simp (disch:=omega) only [Ac,hwb,amL,amT,sA,sB,sC,sD,sE,sF,sG,sH,sI,sJ,sK,sL,sM,sN,sO,↓reduceIte,reduceCtorEq]
         all_goals first | rfl | trace_state
       |refine ME.mk ?_
        first
        |exact Bool.noConfusion h
        |skip
         try simp only [] at h
         refine Am ?_
         refine hK3 _ ?_
  all_goals
   skip
   refine Ad fun K8 hK8=>?_
   simp (disch:=omega) only [amL,amT,sA,sB,sE,sF,sG,↓reduceIte]
   repeat' first | (refine Ca (bd:=90) (by decide) (Yl (l:=l) (s:=s) (nw:=52) (bd:=90) h6 (by omega) hi2 rfl hz2 (by omega) (by omega) (by omega)) (Gg rfl) (by decide) rfl ?_ ; simp (disch:=omega) only [amL,amT,sA,sB,sF,↓reduceIte])
   refine hK8 _ ?_
   refine Af ?_
   try simp (disch:=omega) only [amL,amT,sB,sF,↓reduceIte]
   all_goals first | rfl | trace_state
theorem Xu (n lo hi:Int):Bo Try.prog 50 [i64 n,i64 lo,i64 hi] (bl (inB n lo hi)):=by
  refine A0 (v:=[]) (q:=[]) (N:=15) (rs:=[.tmp 6]) Try.func50 rfl rfl rfl rfl rfl ?_
  refine Ad fun K1 hK1=>?_
  simp (disch:=omega) only [amL,sA,sB]
  refine hK1 _ ?_
  refine Ad fun K2 hK2=>?_
  simp (disch:=omega) only [amL,amT,sA,sF,↓reduceIte,reduceCtorEq]
  repeat' first | (refine Ck (fun h=>?_) (fun h=>?_) <;> simp (disch:=omega) only [h,amL,amT,sA,sF,↓reduceIte,reduceCtorEq]) | (refine Bp (fun h=>?_) (fun h=>?_) <;> simp (disch:=omega) only [h,amL,amT,sA,sB,sC,sD,sE,sF,sG,sH,sI,sJ,sK,sL,sM,sN,sO,↓reduceIte,reduceCtorEq])
  all_goals
   skip
   refine hK2 _ ?_
   refine Af ?_
   try simp (disch:=omega) only [amL,↓reduceIte]
   simp [inB,h]
theorem Yi (l:List Int) (most:Int) (hl:l.length < 1000000):Bo Try.prog 107 [isl l,i64 most] (bl (Cz most (-1) l)):=by
  refine A0 (v:=[]) (q:=[]) (N:=35) (rs:=[.tmp 4]) Try.func107 rfl rfl rfl rfl rfl ?_
  refine Ad fun K1 hK1=>?_
  simp (disch:=omega) only [amL,sA,sB]
  refine hK1 _ ?_
  refine Ab fun K2 hK2=>?_
  refine Ad fun K3 hK3=>?_
  simp (disch:=omega) only [amL,sA]
  refine hK3 _ ?_
  refine Aj ?_
  skip
  refine Bh (α:=Nat) (fun k=>⟨T [(0,isl l),(1,i64 most),(5,i64 (k:Int))],O []⟩) (fun k=>l.length - k) (fun k=>k≤l.length∧Cz most (-1) (l.take k)=true) 0 ?_ ?_ (fun k hx4 K4 hK4=>?_)
  · exact ⟨Nat.zero_le _,rfl⟩
  · refine C2 ?_ ?_ ?_ ?_ <;> (try simp (disch:=omega) only [amL,sF,↓reduceIte,reduceCtorEq]); all_goals first | rfl | trace_state
  obtain ⟨hk,hpre⟩:=hx4
  refine Ab fun K5 hK5=>?_
  refine Ad fun K6 hK6=>?_
  simp (disch:=omega) only [amL,amT,sA,sF,↓reduceIte,reduceCtorEq]
  refine hK6 _ ?_
  refine Ai rfl (fun h=>MT.x ?_) (fun h=>ME.x ?_)
  all_goals
   first
   |refine MT.mk ?_
    first
    |exact Bool.noConfusion h
    |skip
     try simp only [nrm] at h
     refine Am ?_
     refine hK5 _ ?_
   |refine ME.mk ?_
    first
    |exact Bool.noConfusion h
    |skip
     try simp only [nrm] at h
     refine B2 ?_
     refine hK2 _ ?_
     refine Ad fun K7 hK7=>?_
     simp (disch:=omega) only [amL,sA]
     refine hK7 _ ?_
     refine Af ?_
     try simp (disch:=omega) only [amL,sM,↓reduceIte]
     all_goals first | (rw [Ab7 (k:=k) (by omega) (by first | exact .inl (by first | assumption | fail) | exact .inr (by first | omega | fail) | exact .inl (by first | (simp_all; done) | fail) | exact .inr (by first | (simp_all; done) | (simp_all; omega) | fail))]; done) | (rw [← List.take_of_length_le (show l.length≤k by omega),hpre]; done) | trace_state
  all_goals
   skip
   refine Ab fun K8 hK8=>?_
   refine Aj ?_
   refine Ab fun K9 hK9=>?_
   refine Bx (by kernel_rfl) (by kernel_rfl) ?_
   have hk0:((k:Int) - 1).toNat=k - 1:=by omega
   simp (disch:=omega) only [A8,amL,amT,sA,sF,sM,↓reduceIte,reduceCtorEq]
   repeat' first | (refine Ck (fun h=>?_) (fun h=>?_) <;> simp (disch:=omega) only [h,hk0,A8,amL,amT,sA,sF,sM,↓reduceIte,reduceCtorEq]) | (refine Bp (fun h=>?_) (fun h=>?_) <;> simp (disch:=omega) only [h,amL,amT,sA,sF,sM,↓reduceIte,reduceCtorEq]) | (refine Aw (by kernel_rfl) rfl (Xu _ _ _) (by first | exact .inl rfl | exact .inr (.inl rfl)) ?_ ; simp (disch:=omega) only [amL,sA,sM,↓reduceIte])
   all_goals
    skip
    refine hK9 _ ?_
    refine Ai rfl (fun h=>MT.x ?_) (fun h=>ME.x ?_)
    all_goals
     first
     |refine MT.mk ?_
      first
      |exact Bool.noConfusion h
      |skip
       try simp only [nrm] at h
       refine Ad fun K10 hK10=>?_
       simp (disch:=omega) only [amL,sA]
       refine hK10 _ ?_
       refine Af ?_
       try simp (disch:=omega) only [amL,sM,↓reduceIte]
       all_goals first | (rw [Ab7 (k:=k) (by omega) (by first | exact .inl (by first | assumption | fail) | exact .inr (by first | omega | fail) | exact .inl (by first | (simp_all; done) | fail) | exact .inr (by first | (simp_all; done) | (simp_all; omega) | fail))]; done) | (rw [← List.take_of_length_le (show l.length≤k by omega),hpre]; done) | trace_state
     |refine ME.mk ?_
      first
      |exact Bool.noConfusion h
      |skip
       try simp only [nrm] at h
       refine Am ?_
       refine hK8 _ ?_
    all_goals
     skip
     refine Ak ?_
     simp (disch:=omega) only [amL,amT,sA,sF,sM,↓reduceIte,reduceCtorEq]
     refine hK4 (k+1) _ ?_ ?_ (C2 ?_ ?_ ?_ ?_)
     all_goals (try simp (disch:=omega) only [amL,sF,↓reduceIte,reduceCtorEq])
     all_goals first | omega | exact ⟨by omega,Aky (by omega) hpre (by first | assumption | (simp_all; done) | fail) (by first | omega | (simp_all; done) | (simp_all; omega) | fail)⟩ | trace_state
theorem Ah6 (l:List Int) (hl:0 < l.length) (hl2:l.length < 1000000):Bo Try.prog 108 [isl l] (i64 (G6 l)):=by
  refine A0 (v:=[]) (q:=[]) (N:=9) (rs:=[.tmp 2]) Try.func108 rfl rfl rfl rfl rfl ?_
  have e:((l.length:Int) - 1).toNat=l.length - 1:=by omega
  refine Ad fun K1 hK1=>?_
  simp (disch:=omega) only [amL,sA]
  refine hK1 _ ?_
  refine Ad fun K2 hK2=>?_
  simp (disch:=omega) only [A8,amL,amT,sA,sF,↓reduceIte,reduceCtorEq]
  refine hK2 _ ?_
  refine Af ?_
  try simp (disch:=omega) only [amL,↓reduceIte]
  all_goals first | (simp only [G6,e]; done) | trace_state
theorem Vk (l:List Int) (r:Rng) (hl:0 < l.length) (hl2:l.length < 1000000):Bo Try.prog 51 [isl l,avR r] (bl (Ep l r)):=by
  refine A0 (v:=[]) (q:=[]) (N:=25) (rs:=[.tmp 4]) Try.func51 rfl rfl rfl rfl rfl ?_
  refine Ad fun K1 hK1=>?_
  simp (disch:=omega) only [amL,sA,sB,↓reduceIte,reduceCtorEq]
  refine hK1 _ ?_
  refine Ab fun K2 hK2=>?_
  refine Bx (by kernel_rfl) (by kernel_rfl) ?_
  simp (disch:=omega) only [amL,amT,sA,sF,↓reduceIte,reduceCtorEq]
  repeat' first | (refine Ck (fun h=>?_) (fun h=>?_) <;> simp (disch:=omega) only [h,A8,amL,amT,sA,sF,sL,sN,↓reduceIte,reduceCtorEq]) | (refine Bp (fun h=>?_) (fun h=>?_) <;> simp (disch:=omega) only [h,A8,amL,amT,sA,sB,sC,sD,sE,sF,sG,sH,sI,sJ,sK,sL,sM,sN,sO,↓reduceIte,reduceCtorEq]) | (refine Aw (by kernel_rfl) rfl (Ah6 l hl hl2) (by first | exact .inl rfl | exact .inr (.inl rfl)) ?_ ; simp (disch:=omega) only [amL,amT,sA,sF,↓reduceIte])
  all_goals
   skip
   refine hK2 _ ?_
   refine Af ?_
   try simp (disch:=omega) only [amL,↓reduceIte]
   all_goals first | (simp_all [Ep]; done) | (simp_all [Ep]; omega) | (simp_all [Ep]; intros; omega) | trace_state
theorem Ael (t:Tbl) (h1:t.w.length < 1000000) (h2:t.m.length < 1000000) (h3:t.v.length < 1000000) (h4:∀ r ∈ t.v,r.length < 1000000):Bo Try.prog 49 [avQ t] (i64 (Fk t)):=by
  refine A0 (v:=[]) (q:=[]) (N:=86) (rs:=[.tmp 2]) Try.func49 rfl rfl rfl rfl rfl ?_
  have hr:∀ k,k < t.v.length→(t.v.getD k []).length < 1000000:=fun k hk=>h4 _ (Gh [] hk)
  refine Ad fun K1 hK1=>?_
  simp (disch:=omega) only [amL,sA,↓reduceIte]
  refine hK1 _ ?_
  refine Ab fun K2 hK2=>?_
  refine Ad fun K3 hK3=>?_
  simp (disch:=omega) only [amL,amT,sA,sF,↓reduceIte,reduceCtorEq]
  repeat' first | (refine Ck (fun h=>?_) (fun h=>?_) <;> simp (disch:=omega) only [h,amL,amT,sA,sF,↓reduceIte,reduceCtorEq]) | (refine Bp (fun h=>?_) (fun h=>?_) <;> simp (disch:=omega) only [h,F8,A8,ne_eq,amL,amT,sA,sB,sC,sD,sE,sF,sG,sH,sI,sJ,sK,sL,sM,sN,sO,↓reduceIte,reduceCtorEq])
  all_goals
   skip
   refine hK3 _ ?_
   refine Ai rfl (fun h=>MT.x ?_) (fun h=>ME.x ?_)
   all_goals
    first
    |refine MT.mk ?_
     first
     |exact Bool.noConfusion h
     |skip
      try simp only [nrm] at h
      refine Ad fun K4 hK4=>?_
      simp (disch:=omega) only [amL,sA]
      refine hK4 _ ?_
      refine Af ?_
      try simp (disch:=omega) only [amL,↓reduceIte]
      all_goals first | (rw [Lx (by omega)]; done) | (rw [Bf (by omega) (.inl (by omega))]; done) | (rw [Bf (by omega) (.inr (.inl (by omega)))]; done) | (rw [Bf (by omega) (.inr (.inr (.inr (.inr (.inl (by omega))))))]; done) | (rw [Bf (by omega) (.inr (.inr (.inl (by first | assumption | (simp_all; done) | fail))))]; done) | (rw [Bf (by omega) (.inr (.inr (.inr (.inl (by first | assumption | (simp_all; done) | fail)))))]; done) | (rw [Bf (by omega) (.inr (.inr (.inr (.inr (.inr (Bz (d:=[]) (k:=k) (by omega) (Pp (by omega))))))))]; done) | (rw [Bf (by omega) (.inr (.inr (.inr (.inr (.inr (Bz (d:=[]) (k:=k) (by omega) (Ue (Bz (d:=0) (k:=j) (by omega) (by first | assumption | (simp_all; done) | fail)))))))))]; done) | (rw [Lz (by omega) (by omega) (by omega) (by first | assumption | (simp_all; done) | fail) (by first | assumption | (simp_all; done) | fail) (by omega) (Da (by omega) hpre)]; done) | trace_state
    |refine ME.mk ?_
     first
     |exact Bool.noConfusion h
     |skip
      try simp only [nrm] at h
      refine Am ?_
      refine hK2 _ ?_
   all_goals
    skip
    refine Ab fun K5 hK5=>?_
    refine Ad fun K6 hK6=>?_
    simp (disch:=omega) only [amL,amT,sA,sF,↓reduceIte,reduceCtorEq]
    repeat' first | (refine Ck (fun h=>?_) (fun h=>?_) <;> simp (disch:=omega) only [h,amL,amT,sA,sF,↓reduceIte,reduceCtorEq]) | (refine Bp (fun h=>?_) (fun h=>?_) <;> simp (disch:=omega) only [h,ne_eq,amL,amT,sA,sF,sM,↓reduceIte,reduceCtorEq]) | (refine Aw (by kernel_rfl) rfl (by first | exact Yi t.w _ h1 | exact Yi t.m _ h2) (by first | exact .inl rfl | exact .inr (.inl rfl)) ?_ ; simp (disch:=omega) only [amL,sA,sF,sM,↓reduceIte])
    all_goals
     skip
     refine hK6 _ ?_
     refine Ai rfl (fun h=>MT.x ?_) (fun h=>ME.x ?_)
     all_goals
      first
      |refine MT.mk ?_
       first
       |exact Bool.noConfusion h
       |skip
        try simp only [nrm] at h
        refine Ad fun K7 hK7=>?_
        simp (disch:=omega) only [amL,sA,sM]
        refine hK7 _ ?_
        refine Af ?_
        try simp (disch:=omega) only [amL,sM,↓reduceIte]
        all_goals first | (rw [Lx (by omega)]; done) | (rw [Bf (by omega) (.inl (by omega))]; done) | (rw [Bf (by omega) (.inr (.inl (by omega)))]; done) | (rw [Bf (by omega) (.inr (.inr (.inr (.inr (.inl (by omega))))))]; done) | (rw [Bf (by omega) (.inr (.inr (.inl (by first | assumption | (simp_all; done) | fail))))]; done) | (rw [Bf (by omega) (.inr (.inr (.inr (.inl (by first | assumption | (simp_all; done) | fail)))))]; done) | (rw [Bf (by omega) (.inr (.inr (.inr (.inr (.inr (Bz (d:=[]) (k:=k) (by omega) (Pp (by omega))))))))]; done) | (rw [Bf (by omega) (.inr (.inr (.inr (.inr (.inr (Bz (d:=[]) (k:=k) (by omega) (Ue (Bz (d:=0) (k:=j) (by omega) (by first | assumption | (simp_all; done) | fail)))))))))]; done) | (rw [Lz (by omega) (by omega) (by omega) (by first | assumption | (simp_all; done) | fail) (by first | assumption | (simp_all; done) | fail) (by omega) (Da (by omega) hpre)]; done) | trace_state
      |refine ME.mk ?_
       first
       |exact Bool.noConfusion h
       |skip
        try simp only [nrm] at h
        refine Am ?_
        refine hK5 _ ?_
     all_goals
      skip
      refine Ab fun K8 hK8=>?_
      refine Ad fun K9 hK9=>?_
      simp (disch:=omega) only [amL,sA,sM]
      refine hK9 _ ?_
      refine Aj ?_
      skip
      refine Bh (α:=Nat) (fun k=>⟨T [(1,.ptr 1 0),(3,i64 (k:Int))],O [(1,.cells (cQ t))]⟩) (fun k=>t.v.length - k) (fun k=>k≤t.v.length∧(t.v.take k).all (Na t.m.length)=true) 0 ?_ ?_ (fun k hx10 K10 hK10=>?_)
      · exact ⟨Nat.zero_le _,rfl⟩
      · refine C2 ?_ ?_ ?_ ?_ <;> (try simp (disch:=omega) only [amL,sF,sM,↓reduceIte]); all_goals rfl
      obtain ⟨hk,hpre⟩:=hx10
      refine Ab fun K11 hK11=>?_
      refine Ad fun K12 hK12=>?_
      simp (disch:=omega) only [amL,amT,sA,sF,↓reduceIte,reduceCtorEq]
      refine hK12 _ ?_
      refine Ai rfl (fun h=>MT.x ?_) (fun h=>ME.x ?_)
      all_goals
       first
       |refine MT.mk ?_
        first
        |exact Bool.noConfusion h
        |skip
         try simp only [nrm] at h
         refine Am ?_
         refine hK11 _ ?_
       |refine ME.mk ?_
        first
        |exact Bool.noConfusion h
        |skip
         try simp only [nrm] at h
         refine B2 ?_
         refine hK8 _ ?_
         refine Ad fun K13 hK13=>?_
         simp (disch:=omega) only [amL,sA]
         refine hK13 _ ?_
         refine Af ?_
         try simp (disch:=omega) only [amL,↓reduceIte]
         all_goals first | (rw [Lx (by omega)]; done) | (rw [Bf (by omega) (.inl (by omega))]; done) | (rw [Bf (by omega) (.inr (.inl (by omega)))]; done) | (rw [Bf (by omega) (.inr (.inr (.inr (.inr (.inl (by omega))))))]; done) | (rw [Bf (by omega) (.inr (.inr (.inl (by first | assumption | (simp_all; done) | fail))))]; done) | (rw [Bf (by omega) (.inr (.inr (.inr (.inl (by first | assumption | (simp_all; done) | fail)))))]; done) | (rw [Bf (by omega) (.inr (.inr (.inr (.inr (.inr (Bz (d:=[]) (k:=k) (by omega) (Pp (by omega))))))))]; done) | (rw [Bf (by omega) (.inr (.inr (.inr (.inr (.inr (Bz (d:=[]) (k:=k) (by omega) (Ue (Bz (d:=0) (k:=j) (by omega) (by first | assumption | (simp_all; done) | fail)))))))))]; done) | (rw [Lz (by omega) (by omega) (by omega) (by first | assumption | (simp_all; done) | fail) (by first | assumption | (simp_all; done) | fail) (by omega) (Da (by omega) hpre)]; done) | trace_state
      all_goals
       skip
       refine Ab fun K14 hK14=>?_
       refine Aj ?_
       refine Ab fun K15 hK15=>?_
       refine Ab fun K16 hK16=>?_
       refine Bx (by kernel_rfl) (by kernel_rfl) ?_
       have hrl:=hr k (by omega)
       simp (disch:=omega) only [F8,ne_eq,amL,amT,sA,sF,↓reduceIte,reduceCtorEq]
       refine hK16 _ ?_
       refine Ai rfl (fun h=>MT.x ?_) (fun h=>ME.x ?_)
       all_goals
        first
        |refine MT.mk ?_
         first
         |exact Bool.noConfusion h
         |skip
          try simp only [nrm] at h
          refine Ad fun K17 hK17=>?_
          simp (disch:=omega) only [amL,sA]
          refine hK17 _ ?_
          refine Af ?_
          try simp (disch:=omega) only [amL,↓reduceIte]
          all_goals first | (rw [Lx (by omega)]; done) | (rw [Bf (by omega) (.inl (by omega))]; done) | (rw [Bf (by omega) (.inr (.inl (by omega)))]; done) | (rw [Bf (by omega) (.inr (.inr (.inr (.inr (.inl (by omega))))))]; done) | (rw [Bf (by omega) (.inr (.inr (.inl (by first | assumption | (simp_all; done) | fail))))]; done) | (rw [Bf (by omega) (.inr (.inr (.inr (.inl (by first | assumption | (simp_all; done) | fail)))))]; done) | (rw [Bf (by omega) (.inr (.inr (.inr (.inr (.inr (Bz (d:=[]) (k:=k) (by omega) (Pp (by omega))))))))]; done) | (rw [Bf (by omega) (.inr (.inr (.inr (.inr (.inr (Bz (d:=[]) (k:=k) (by omega) (Ue (Bz (d:=0) (k:=j) (by omega) (by first | assumption | (simp_all; done) | fail)))))))))]; done) | (rw [Lz (by omega) (by omega) (by omega) (by first | assumption | (simp_all; done) | fail) (by first | assumption | (simp_all; done) | fail) (by omega) (Da (by omega) hpre)]; done) | trace_state
        |refine ME.mk ?_
         first
         |exact Bool.noConfusion h
         |skip
          try simp only [nrm] at h
          refine Am ?_
          refine hK15 _ ?_
       all_goals
        skip
        refine Ad fun K18 hK18=>?_
        simp (disch:=omega) only [amL,sA]
        refine hK18 _ ?_
        refine Aj ?_
        skip
        refine Bh (α:=Nat) (fun j=>⟨T [(1,.ptr 1 0),(3,i64 (k:Int)),(4,i64 (j:Int))],O [(1,.cells (cQ t))]⟩) (fun j=>t.m.length - j) (fun j=>j≤t.m.length∧((t.v.getD k []).take j).all (fun x=>inB x 0 2000)=true) 0 ?_ ?_ (fun j hx19 K19 hK19=>?_)
        · exact ⟨Nat.zero_le _,rfl⟩
        · refine C2 ?_ ?_ ?_ ?_ <;> (try simp (disch:=omega) only [amL,sF,↓reduceIte]); all_goals rfl
        obtain ⟨hj,hpre2⟩:=hx19
        refine Ab fun K20 hK20=>?_
        refine Ad fun K21 hK21=>?_
        simp (disch:=omega) only [amL,amT,sA,sF,↓reduceIte,reduceCtorEq]
        refine hK21 _ ?_
        refine Ai rfl (fun h=>MT.x ?_) (fun h=>ME.x ?_)
        all_goals
         first
         |refine MT.mk ?_
          first
          |exact Bool.noConfusion h
          |skip
           try simp only [nrm] at h
           refine Am ?_
           refine hK20 _ ?_
         |refine ME.mk ?_
          first
          |exact Bool.noConfusion h
          |skip
           try simp only [nrm] at h
           refine B2 ?_
           refine hK14 _ ?_
           refine Ak ?_
           simp (disch:=omega) only [amL,amT,sA,sF,↓reduceIte]
           refine hK10 (k+1) _ ?_ ?_ (C2 ?_ ?_ ?_ ?_)
           all_goals (try simp (disch:=omega) only [amL,sF,↓reduceIte])
           all_goals first | omega | exact ⟨by omega,Mv (d:=[]) (by omega) hpre (Ao7 (by first | omega | (simp_all; done) | (simp_all; omega) | fail) (Da (by first | omega | (simp_all; done) | (simp_all; omega) | fail) hpre2))⟩ | trace_state
        all_goals
         skip
         refine Ab fun K22 hK22=>?_
         refine Aj ?_
         refine Ad fun K23 hK23=>?_
         have hrl:=hr k (by omega)
         simp (disch:=omega) only [F8,A8,amL,amT,sA,sF,↓reduceIte,reduceCtorEq]
         repeat' first | (refine Aw (by kernel_rfl) rfl (Xu _ _ _) (by first | exact .inl rfl | exact .inr (.inl rfl)) ?_ ; simp (disch:=omega) only [amL,↓reduceIte])
         refine hK23 _ ?_
         refine Ai rfl (fun h=>MT.x ?_) (fun h=>ME.x ?_)
         all_goals
          first
          |refine MT.mk ?_
           first
           |exact Bool.noConfusion h
           |skip
            try simp only [nrm] at h
            refine Ad fun K24 hK24=>?_
            simp (disch:=omega) only [amL,sA]
            refine hK24 _ ?_
            refine Af ?_
            try simp (disch:=omega) only [amL,↓reduceIte]
            all_goals first | (rw [Lx (by omega)]; done) | (rw [Bf (by omega) (.inl (by omega))]; done) | (rw [Bf (by omega) (.inr (.inl (by omega)))]; done) | (rw [Bf (by omega) (.inr (.inr (.inr (.inr (.inl (by omega))))))]; done) | (rw [Bf (by omega) (.inr (.inr (.inl (by first | assumption | (simp_all; done) | fail))))]; done) | (rw [Bf (by omega) (.inr (.inr (.inr (.inl (by first | assumption | (simp_all; done) | fail)))))]; done) | (rw [Bf (by omega) (.inr (.inr (.inr (.inr (.inr (Bz (d:=[]) (k:=k) (by omega) (Pp (by omega))))))))]; done) | (rw [Bf (by omega) (.inr (.inr (.inr (.inr (.inr (Bz (d:=[]) (k:=k) (by omega) (Ue (Bz (d:=0) (k:=j) (by omega) (by first | assumption | (simp_all; done) | fail)))))))))]; done) | (rw [Lz (by omega) (by omega) (by omega) (by first | assumption | (simp_all; done) | fail) (by first | assumption | (simp_all; done) | fail) (by omega) (Da (by omega) hpre)]; done) | trace_state
          |refine ME.mk ?_
           first
           |exact Bool.noConfusion h
           |skip
            try simp only [nrm] at h
            refine Am ?_
            refine hK22 _ ?_
         all_goals
          skip
          refine Ak ?_
          simp (disch:=omega) only [amL,amT,sA,sF,↓reduceIte]
          refine hK19 (j+1) _ ?_ ?_ (C2 ?_ ?_ ?_ ?_)
          all_goals (try simp (disch:=omega) only [amL,sF,↓reduceIte])
          all_goals first | omega | exact ⟨by omega,Mv (d:=0) (by first | omega | (simp_all; done) | (simp_all; omega) | fail) hpre2 (by first | assumption | (simp_all; done) | fail)⟩ | trace_state
theorem Apu (s:Sto) (h1:s.t.w.length < 1000000) (h2:s.t.m.length < 1000000) (h3:s.t.v.length < 1000000) (h4:∀ r ∈ s.t.v,r.length < 1000000) (h5:s.c.length < 1000000):Bo Try.prog 10 [avO s] (i64 (Jp s)):=by
  refine A0 (v:=[]) (q:=[]) (N:=54) (rs:=[.tmp 2]) Try.func10 rfl rfl rfl rfl rfl ?_
  refine Ad fun K1 hK1=>?_
  simp (disch:=omega) only [amL,sA,↓reduceIte]
  refine hK1 _ ?_
  refine Ab fun K2 hK2=>?_
  refine Ad fun K3 hK3=>?_
  simp (disch:=omega) only [amL,amT,sA,sB,sE,sF,↓reduceIte,reduceCtorEq]
  repeat' first | (refine Aw (by kernel_rfl) rfl (Ael s.t h1 h2 h3 h4) (by first | exact .inl rfl | exact .inr (.inl rfl)) ?_ ; simp (disch:=omega) only [amL,sA,↓reduceIte])
  refine hK3 _ ?_
  refine Ad fun K4 hK4=>?_
  simp (disch:=omega) only [ne_eq,amL,amT,sA,↓reduceIte]
  refine hK4 _ ?_
  refine Ai rfl (fun h=>MT.x ?_) (fun h=>ME.x ?_)
  all_goals
   first
   |refine MT.mk ?_
    first
    |exact Bool.noConfusion h
    |skip
     try simp only [nrm] at h
     refine Ad fun K5 hK5=>?_
     simp (disch:=omega) only [amL,sA,sF,↓reduceIte]
     refine hK5 _ ?_
     refine Af ?_
     try simp (disch:=omega) only [amL,↓reduceIte]
     all_goals first | (rw [L1 (by omega)]; done) | (rw [Mg (by omega) (by omega)]; done) | (rw [Mi (by omega) (by omega) (by first | assumption | (simp_all; done) | fail) (Da (by omega) hpre)]; done) | (rw [Fc (by omega) (by omega) (.inl (by first | assumption | (simp_all; done) | fail))]; done) | (rw [Fc (by omega) (by omega) (.inr (Bz (d:=default) (k:=k) (by omega) (by first | (simp_all [okC]; done) | fail)))]; done) | trace_state
   |refine ME.mk ?_
    first
    |exact Bool.noConfusion h
    |skip
     try simp only [nrm] at h
     refine Am ?_
     refine hK2 _ ?_
  all_goals
   skip
   refine Ab fun K6 hK6=>?_
   refine Ad fun K7 hK7=>?_
   simp (disch:=omega) only [amL,amT,sA,sF,↓reduceIte,reduceCtorEq]
   refine hK7 _ ?_
   refine Ai rfl (fun h=>MT.x ?_) (fun h=>ME.x ?_)
   all_goals
    first
    |refine MT.mk ?_
     first
     |exact Bool.noConfusion h
     |skip
      try simp only [nrm] at h
      refine Ad fun K8 hK8=>?_
      simp (disch:=omega) only [amL,sA]
      refine hK8 _ ?_
      refine Af ?_
      try simp (disch:=omega) only [amL,↓reduceIte]
      all_goals first | (rw [L1 (by omega)]; done) | (rw [Mg (by omega) (by omega)]; done) | (rw [Mi (by omega) (by omega) (by first | assumption | (simp_all; done) | fail) (Da (by omega) hpre)]; done) | (rw [Fc (by omega) (by omega) (.inl (by first | assumption | (simp_all; done) | fail))]; done) | (rw [Fc (by omega) (by omega) (.inr (Bz (d:=default) (k:=k) (by omega) (by first | (simp_all [okC]; done) | fail)))]; done) | trace_state
    |refine ME.mk ?_
     first
     |exact Bool.noConfusion h
     |skip
      try simp only [nrm] at h
      refine Am ?_
      refine hK6 _ ?_
   all_goals
    skip
    refine Ab fun K9 hK9=>?_
    refine Ad fun K10 hK10=>?_
    simp (disch:=omega) only [amL,amT,sA,sF,↓reduceIte,reduceCtorEq]
    repeat' first | (refine Aw (by kernel_rfl) rfl (Xu _ _ _) (by first | exact .inl rfl | exact .inr (.inl rfl)) ?_ ; simp (disch:=omega) only [amL,sA,↓reduceIte])
    refine hK10 _ ?_
    refine Ai rfl (fun h=>MT.x ?_) (fun h=>ME.x ?_)
    all_goals
     first
     |refine MT.mk ?_
      first
      |exact Bool.noConfusion h
      |skip
       try simp only [nrm] at h
       refine Ad fun K11 hK11=>?_
       simp (disch:=omega) only [amL,sA]
       refine hK11 _ ?_
       refine Af ?_
       try simp (disch:=omega) only [amL,↓reduceIte]
       all_goals first | (rw [L1 (by omega)]; done) | (rw [Mg (by omega) (by omega)]; done) | (rw [Mi (by omega) (by omega) (by first | assumption | (simp_all; done) | fail) (Da (by omega) hpre)]; done) | (rw [Fc (by omega) (by omega) (.inl (by first | assumption | (simp_all; done) | fail))]; done) | (rw [Fc (by omega) (by omega) (.inr (Bz (d:=default) (k:=k) (by omega) (by first | (simp_all [okC]; done) | fail)))]; done) | trace_state
     |refine ME.mk ?_
      first
      |exact Bool.noConfusion h
      |skip
       try simp only [nrm] at h
       refine Am ?_
       refine hK9 _ ?_
    all_goals
     skip
     refine Ab fun K12 hK12=>?_
     refine Ad fun K13 hK13=>?_
     simp (disch:=omega) only [amL,sA]
     refine hK13 _ ?_
     refine Aj ?_
     have ht:=Am2 (t:=s.t) (by omega)
     have hw0:0 < s.t.w.length:=by have:=ht.nw; omega
     have hm0:0 < s.t.m.length:=by have:=ht.nm; omega
     refine Bh (α:=Nat) (fun k=>⟨T [(1,.ptr 1 0),(4,i64 (k:Int))],O [(1,.cells (cO s))]⟩) (fun k=>s.c.length - k) (fun k=>k≤s.c.length∧(s.c.take k).all (okC s.t)=true) 0 ?_ ?_ (fun k hx14 K14 hK14=>?_)
     · exact ⟨Nat.zero_le _,rfl⟩
     · refine C2 ?_ ?_ ?_ ?_ <;> (try simp (disch:=omega) only [amL,sF,↓reduceIte]); all_goals rfl
     obtain ⟨hk,hpre⟩:=hx14
     refine Ab fun K15 hK15=>?_
     refine Ad fun K16 hK16=>?_
     simp (disch:=omega) only [amL,amT,sA,sF,↓reduceIte,reduceCtorEq]
     refine hK16 _ ?_
     refine Ai rfl (fun h=>MT.x ?_) (fun h=>ME.x ?_)
     all_goals
      first
      |refine MT.mk ?_
       first
       |exact Bool.noConfusion h
       |skip
        try simp only [nrm] at h
        refine Am ?_
        refine hK15 _ ?_
      |refine ME.mk ?_
       first
       |exact Bool.noConfusion h
       |skip
        try simp only [nrm] at h
        refine B2 ?_
        refine hK12 _ ?_
        refine Ad fun K17 hK17=>?_
        simp (disch:=omega) only [amL,sA]
        refine hK17 _ ?_
        refine Af ?_
        try simp (disch:=omega) only [amL,↓reduceIte]
        all_goals first | (rw [L1 (by omega)]; done) | (rw [Mg (by omega) (by omega)]; done) | (rw [Mi (by omega) (by omega) (by first | assumption | (simp_all; done) | fail) (Da (by omega) hpre)]; done) | (rw [Fc (by omega) (by omega) (.inl (by first | assumption | (simp_all; done) | fail))]; done) | (rw [Fc (by omega) (by omega) (.inr (Bz (d:=default) (k:=k) (by omega) (by first | (simp_all [okC]; done) | fail)))]; done) | trace_state
     all_goals
      skip
      refine Ab fun K18 hK18=>?_
      refine Aj ?_
      refine Ad fun K19 hK19=>?_
      simp (disch:=omega) only [En,amL,amT,sA,sB,sF,↓reduceIte,reduceCtorEq]
      refine hK19 _ ?_
      refine Ad fun K20 hK20=>?_
      simp (disch:=omega) only [amL,amT,sA,↓reduceIte,reduceCtorEq]
      repeat' first | (refine Ck (fun h=>?_) (fun h=>?_) <;> simp (disch:=omega) only [h,En,ne_eq,amL,amT,sA,sB,sC,sD,sE,sF,sG,sH,sI,sJ,sK,sL,sM,sN,sO,↓reduceIte,reduceCtorEq]) | (refine Bp (fun h=>?_) (fun h=>?_) <;> simp (disch:=omega) only [h,amL,amT,sA,sB,sE,sF,↓reduceIte,reduceCtorEq]) | (refine Aw (by kernel_rfl) rfl (Xu _ _ _) (by first | exact .inl rfl | exact .inr (.inl rfl)) ?_ ; simp (disch:=omega) only [amL,sA,↓reduceIte]) | (refine Aw (by kernel_rfl) rfl (by first | exact Vk s.t.w (s.c.getD k default).t hw0 h1 | exact Vk s.t.m (s.c.getD k default).k hm0 h2) (by first | exact .inl rfl | exact .inr (.inl rfl)) ?_ ; simp (disch:=omega) only [amL,sA,sF,↓reduceIte])
      all_goals
       skip
       refine hK20 _ ?_
       refine Ai rfl (fun h=>MT.x ?_) (fun h=>ME.x ?_)
       all_goals
        first
        |refine MT.mk ?_
         first
         |exact Bool.noConfusion h
         |skip
          try simp only [nrm] at h
          refine Ad fun K21 hK21=>?_
          simp (disch:=omega) only [amL,sA]
          refine hK21 _ ?_
          refine Af ?_
          try simp (disch:=omega) only [amL,↓reduceIte]
          all_goals first | (rw [L1 (by omega)]; done) | (rw [Mg (by omega) (by omega)]; done) | (rw [Mi (by omega) (by omega) (by first | assumption | (simp_all; done) | fail) (Da (by omega) hpre)]; done) | (rw [Fc (by omega) (by omega) (.inl (by first | assumption | (simp_all; done) | fail))]; done) | (rw [Fc (by omega) (by omega) (.inr (Bz (d:=default) (k:=k) (by omega) (by first | (simp_all [okC]; done) | fail)))]; done) | trace_state
        |refine ME.mk ?_
         first
         |exact Bool.noConfusion h
         |skip
          try simp only [nrm] at h
          refine Am ?_
          refine hK18 _ ?_
       all_goals
        skip
        refine Ak ?_
        simp (disch:=omega) only [amL,amT,sA,sF,↓reduceIte]
        refine hK14 (k+1) _ ?_ ?_ (C2 ?_ ?_ ?_ ?_)
        all_goals (try simp (disch:=omega) only [amL,sF,↓reduceIte])
        all_goals first | omega | exact ⟨by omega,Mv (d:=default) (by omega) hpre (by first | (simp_all [okC]; done) | fail)⟩ | trace_state
theorem Agt (t:Tbl):Bo Try.prog 48 [avQ t] (bl (Nc t)):=by
  refine A0 (v:=[]) (q:=[]) (N:=34) (rs:=[.tmp 2]) Try.func48 rfl rfl rfl rfl rfl ?_
  refine Ad fun K1 hK1=>?_
  simp (disch:=omega) only [amL,sA,↓reduceIte]
  refine hK1 _ ?_
  refine Ab fun K2 hK2=>?_
  refine Ad fun K3 hK3=>?_
  simp (disch:=omega) only [amL,amT,sA,sF,↓reduceIte,reduceCtorEq]
  repeat' first | (refine Ck (fun h=>?_) (fun h=>?_) <;> simp (disch:=omega) only [h,amL,amT,sA,sF,↓reduceIte,reduceCtorEq]) | (refine Bp (fun h=>?_) (fun h=>?_) <;> simp (disch:=omega) only [h,F8,A8,amL,amT,sA,sB,sC,sD,sE,sF,sG,sH,sI,sJ,sK,sL,sM,sN,sO,↓reduceIte,reduceCtorEq])
  all_goals
   skip
   refine hK3 _ ?_
   refine Ai rfl (fun h=>MT.x ?_) (fun h=>ME.x ?_)
   all_goals
    first
    |refine MT.mk ?_
     first
     |exact Bool.noConfusion h
     |skip
      try simp only [nrm] at h
      refine Ad fun K4 hK4=>?_
      simp (disch:=omega) only [amL,sA]
      refine hK4 _ ?_
      refine Af ?_
      try simp (disch:=omega) only [amL,↓reduceIte]
      all_goals first | (rw [P3 (by omega) (by omega) (by omega) (Da (by omega) hpre)]; done) | (rw [Nc,Bz (d:=[]) (k:=k) (by omega) (decide_eq_false (by omega)),Bool.and_false]; done) | (rw [Tx (by omega)]; done) | trace_state
    |refine ME.mk ?_
     first
     |exact Bool.noConfusion h
     |skip
      try simp only [nrm] at h
      refine Am ?_
      refine hK2 _ ?_
   all_goals
    skip
    refine Ab fun K5 hK5=>?_
    refine Ad fun K6 hK6=>?_
    simp (disch:=omega) only [amL,sA]
    refine hK6 _ ?_
    refine Aj ?_
    have h3:(t.v.length:Int)≤8:=by omega
    refine Bh (α:=Nat) (fun k=>⟨T [(1,.ptr 1 0),(3,i64 (k:Int))],O [(1,.cells (cQ t))]⟩) (fun k=>t.v.length - k) (fun k=>k≤t.v.length∧(t.v.take k).all (fun r=>decide ((r.length:Int)≤8))=true) 0 ?_ ?_ (fun k hx7 K7 hK7=>?_)
    · exact ⟨Nat.zero_le _,rfl⟩
    · refine C2 ?_ ?_ ?_ ?_ <;> (try simp (disch:=omega) only [amL,sF,↓reduceIte]); all_goals rfl
    obtain ⟨hk,hpre⟩:=hx7
    refine Ab fun K8 hK8=>?_
    refine Ad fun K9 hK9=>?_
    simp (disch:=omega) only [amL,amT,sA,sF,↓reduceIte,reduceCtorEq]
    refine hK9 _ ?_
    refine Ai rfl (fun h=>MT.x ?_) (fun h=>ME.x ?_)
    all_goals
     first
     |refine MT.mk ?_
      first
      |exact Bool.noConfusion h
      |skip
       try simp only [nrm] at h
       refine Am ?_
       refine hK8 _ ?_
     |refine ME.mk ?_
      first
      |exact Bool.noConfusion h
      |skip
       try simp only [nrm] at h
       refine B2 ?_
       refine hK5 _ ?_
       refine Ad fun K10 hK10=>?_
       simp (disch:=omega) only [amL,sA]
       refine hK10 _ ?_
       refine Af ?_
       try simp (disch:=omega) only [amL,↓reduceIte]
       all_goals first | (rw [P3 (by omega) (by omega) (by omega) (Da (by omega) hpre)]; done) | (rw [Nc,Bz (d:=[]) (k:=k) (by omega) (decide_eq_false (by omega)),Bool.and_false]; done) | (rw [Tx (by omega)]; done) | trace_state
    all_goals
     skip
     refine Ab fun K11 hK11=>?_
     refine Aj ?_
     refine Ad fun K12 hK12=>?_
     simp (disch:=omega) only [F8,amL,amT,sA,sF,↓reduceIte,reduceCtorEq]
     refine hK12 _ ?_
     refine Ai rfl (fun h=>MT.x ?_) (fun h=>ME.x ?_)
     all_goals
      first
      |refine MT.mk ?_
       first
       |exact Bool.noConfusion h
       |skip
        try simp only [nrm] at h
        refine Ad fun K13 hK13=>?_
        simp (disch:=omega) only [amL,sA]
        refine hK13 _ ?_
        refine Af ?_
        try simp (disch:=omega) only [amL,↓reduceIte]
        all_goals first | (rw [P3 (by omega) (by omega) (by omega) (Da (by omega) hpre)]; done) | (rw [Nc,Bz (d:=[]) (k:=k) (by omega) (decide_eq_false (by omega)),Bool.and_false]; done) | (rw [Tx (by omega)]; done) | trace_state
      |refine ME.mk ?_
       first
       |exact Bool.noConfusion h
       |skip
        try simp only [nrm] at h
        refine Am ?_
        refine hK11 _ ?_
     all_goals
      skip
      refine Ak ?_
      simp (disch:=omega) only [amL,amT,sA,sF,↓reduceIte]
      refine hK7 (k+1) _ ?_ ?_ (C2 ?_ ?_ ?_ ?_)
      all_goals (try simp (disch:=omega) only [amL,sF,↓reduceIte])
      all_goals first | omega | exact ⟨by omega,Mv (d:=[]) (by omega) hpre (decide_eq_true (by omega))⟩ | trace_state
theorem Aj7 (l:List Int):((l.map fun n=>[iv n]).all fun c=>decide (c.length=1))=true:=by simp
theorem M3 (l:List Int) (hl:l.length < 1000000):Bo Try.prog 111 [isl l] (isl l):=by
  refine A0 (v:=[]) (q:=[]) (N:=6) (rs:=[.tmp 2]) Try.func111 rfl rfl rfl rfl rfl ?_
  refine Ad fun K1 hK1=>?_
  simp (disch:=omega) only [amL,sA]
  refine hK1 _ ?_
  refine Ad fun K2 hK2=>?_
  simp (disch:=omega) only [Aj7,amL,amT,sA,sF,↓reduceIte,reduceCtorEq]
  refine hK2 _ ?_
  refine Af ?_
  try simp (disch:=omega) only [amL,↓reduceIte]
  rw [show l.length=(l.map fun n=>[iv n]).length by simp,List.take_length]
theorem Ad7 (t:Tbl) (h1:t.w.length < 1000000) (h2:t.m.length < 1000000) (h3:t.v.length < 1000000) (h4:∀ r ∈ t.v,r.length < 1000000):Bo Try.prog 53 [avQ t] (avQ t):=by
  refine A0 (v:=[]) (q:=[]) (N:=31) (rs:=[.cell 2 41]) Try.func53 rfl rfl rfl rfl rfl ?_
  have hr:∀ k,k < t.v.length→(t.v.getD k []).length < 1000000:=fun k hk=>h4 _ (Gh [] hk)
  refine Ad fun K1 hK1=>?_
  simp (disch:=omega) only [amL,amT,sA,sB,sF,↓reduceIte]
  refine hK1 _ ?_
  refine Ab fun K2 hK2=>?_
  refine Bx (by kernel_rfl) (by kernel_rfl) ?_
  simp (disch:=omega) only [amL,amT,sA,sF,↓reduceIte,reduceCtorEq]
  repeat' first | (refine Aw (by kernel_rfl) rfl (by first | exact M3 t.w h1 | exact M3 t.m h2 | exact M3 (t.v.getD k []) (hr k (by omega))) (by first | exact .inl rfl | exact .inr (.inl rfl)) ?_ ; simp (disch:=omega) only [amL,amT,sA,sB,sE,sF,↓reduceIte,reduceCtorEq])
  refine hK2 _ ?_
  refine Ab fun K3 hK3=>?_
  refine Ad fun K4 hK4=>?_
  simp (disch:=omega) only [amL,sA]
  refine hK4 _ ?_
  refine Aj ?_
  refine Qz 28 1 3 2 (by decide) rfl rfl rfl ?_
  refine Bh (α:=Nat) (fun k=>⟨T [(1,.ptr 1 0),(2,.ptr 2 0),(3,.ptr 3 0),(4,i64 (k:Int))],O [(1,.cells (cQ t)),(2,.cells [E7,E7,E7]),(3,.cells [isl t.w,isl t.m,.own 28 k]),(28,.arr 1 ((t.v.take k).map Aeg))]⟩) (fun k=>t.v.length - k) (fun k=>k≤t.v.length) 0 ?_ ?_ (fun k hx5 K5 hK5=>?_)
  · exact Nat.zero_le _
  · refine C2 ?_ ?_ ?_ ?_ <;> (try simp (disch:=omega) only [amL,sF,sG,↓reduceIte]); all_goals first | rfl | trace_state
  have hk:=hx5
  refine Ab fun K6 hK6=>?_
  refine Ad fun K7 hK7=>?_
  simp (disch:=omega) only [amL,amT,sA,sF,↓reduceIte,reduceCtorEq]
  refine hK7 _ ?_
  refine Ai rfl (fun h=>MT.x ?_) (fun h=>ME.x ?_)
  all_goals
   first
   |refine MT.mk ?_
    first
    |exact Bool.noConfusion h
    |skip
     try simp only [nrm] at h
     refine Am ?_
     refine hK6 _ ?_
   |refine ME.mk ?_
    first
    |exact Bool.noConfusion h
    |skip
     try simp only [nrm] at h
     refine B2 ?_
     refine hK3 _ ?_
     refine Ad fun K8 hK8=>?_
     simp (disch:=omega) only [amL,amT,sB,sF,↓reduceIte]
     refine hK8 _ ?_
     refine Af ?_
     try simp (disch:=omega) only [amL,amT,sB,sF,↓reduceIte]
     all_goals first | (rw [List.take_of_length_le (by simp; omega),List.take_of_length_le (by omega)]; done) | trace_state
  all_goals
   skip
   refine Ab fun K9 hK9=>?_
   refine Aj ?_
   refine Bx (by kernel_rfl) (by kernel_rfl) ?_
   simp (disch:=omega) only [F8,amL,amT,sA,sF,↓reduceIte,reduceCtorEq]
   repeat' first | (refine Aw (by kernel_rfl) rfl (by first | exact M3 t.w h1 | exact M3 t.m h2 | exact M3 (t.v.getD k []) (hr k (by omega))) (by first | exact .inl rfl | exact .inr (.inl rfl)) ?_ ; simp (disch:=omega) only [amL,amT,sA,sB,sE,sF,↓reduceIte,reduceCtorEq])
   refine hK9 _ ?_
   refine Ak ?_
   simp (disch:=omega) only [amL,amT,sA,sF,↓reduceIte]
   refine hK5 (k+1) _ ?_ ?_ (C2 ?_ ?_ ?_ ?_)
   all_goals (try simp (disch:=omega) only [amL,sF,sG,↓reduceIte])
   all_goals first | omega | exact (congrArg (AO.arr 1) (Ab9 [] (by omega))).symm | trace_state
theorem Atu (s:Sto):Bo Try.prog 9 [avO s] (bl (Am6 s)):=by
  refine A0 (v:=[]) (q:=[]) (N:=12) (rs:=[.tmp 2]) Try.func9 rfl rfl rfl rfl rfl ?_
  refine Ad fun K1 hK1=>?_
  simp (disch:=omega) only [amL,sA,↓reduceIte]
  refine hK1 _ ?_
  refine Ad fun K2 hK2=>?_
  simp (disch:=omega) only [amL,amT,sA,sB,sE,sF,↓reduceIte,reduceCtorEq]
  repeat' first | (refine Ck (fun h=>?_) (fun h=>?_) <;> simp (disch:=omega) only [h,amL,amT,sA,sB,sC,sD,sE,sF,sG,sH,sI,sJ,sK,sL,sM,sN,sO,↓reduceIte,reduceCtorEq]) | (refine Bp (fun h=>?_) (fun h=>?_) <;> simp (disch:=omega) only [h,amL,amT,sA,sF,↓reduceIte,reduceCtorEq]) | (refine Aw (by kernel_rfl) rfl (Agt s.t) (by first | exact .inl rfl | exact .inr (.inl rfl)) ?_ ; simp (disch:=omega) only [amL,sA,↓reduceIte])
  all_goals
   skip
   refine hK2 _ ?_
   refine Af ?_
   try simp (disch:=omega) only [amL,↓reduceIte]
   all_goals first | (simp_all [Am6]; done) | trace_state
theorem Apj (r:Rng):Bo Try.prog 54 [avR r] (avR r):=by
  refine A0 (v:=[]) (q:=[]) (N:=8) (rs:=[.cell 2 52]) Try.func54 rfl rfl rfl rfl rfl ?_
  refine Ad fun K1 hK1=>?_
  simp (disch:=omega) only [amL,amT,sA,sB,sF,↓reduceIte]
  refine hK1 _ ?_
  refine Ad fun K2 hK2=>?_
  simp (disch:=omega) only [amL,amT,sA,sB,sE,sF,↓reduceIte,reduceCtorEq]
  refine hK2 _ ?_
  refine Af ?_
  try simp (disch:=omega) only [amL,amT,sB,sF,↓reduceIte]
  all_goals rfl
theorem Aps (n:Int):Bo Try.prog 14 [i64 n] (avR ⟨n,n⟩):=by
  refine A0 (v:=[]) (q:=[]) (N:=6) (rs:=[.cell 2 53]) Try.func14 rfl rfl rfl rfl rfl ?_
  refine Ad fun K1 hK1=>?_
  simp (disch:=omega) only [amL,amT,sA,sB,↓reduceIte]
  refine hK1 _ ?_
  refine Ad fun K2 hK2=>?_
  simp (disch:=omega) only [amL,amT,sA,sB,sE,sF,↓reduceIte,reduceCtorEq]
  refine hK2 _ ?_
  refine Af ?_
  try simp (disch:=omega) only [amL,amT,sB,sF,↓reduceIte]
  all_goals rfl
theorem Apt (s:Sto) (h1:s.t.w.length < 1000000) (h2:s.t.m.length < 1000000) (h3:s.t.v.length < 1000000) (h4:∀ r ∈ s.t.v,r.length < 1000000) (h5:s.c.length < 1000000):Bo Try.prog 13 [avO s] (avO s):=by
  refine A0 (v:=[]) (q:=[]) (N:=39) (rs:=[.cell 2 44]) Try.func13 rfl rfl rfl rfl rfl ?_
  refine Ad fun K1 hK1=>?_
  simp (disch:=omega) only [amL,amT,sA,sB,sF,↓reduceIte]
  refine hK1 _ ?_
  refine Ab fun K2 hK2=>?_
  refine Bx (by kernel_rfl) (by kernel_rfl) ?_
  simp (disch:=omega) only [amL,amT,sA,sB,sE,sF,↓reduceIte,reduceCtorEq]
  repeat' first | (refine Aw (by kernel_rfl) rfl (Ad7 s.t h1 h2 h3 h4) (by first | exact .inl rfl | exact .inr (.inl rfl)) ?_ ; simp (disch:=omega) only [amL,amT,sA,sB,sE,sF,↓reduceIte,reduceCtorEq])
  refine hK2 _ ?_
  refine Ab fun K3 hK3=>?_
  refine Ad fun K4 hK4=>?_
  simp (disch:=omega) only [amL,sA]
  refine hK4 _ ?_
  refine Aj ?_
  refine Qz 36 5 3 4 (by decide) rfl rfl rfl ?_
  refine Bh (α:=Nat) (fun k=>⟨T [(1,.ptr 1 0),(2,.ptr 2 0),(3,.ptr 3 0),(4,i64 (k:Int))],O [(1,.cells (cO s)),(2,.cells [E7,E7,E7,i64 0,E7]),(3,.cells [isl s.t.w,isl s.t.m,.p (slI s.t.v),i64 s.r,.own 36 k]),(36,.arr 5 ((s.c.take k).map Zf))]⟩) (fun k=>s.c.length - k) (fun k=>k≤s.c.length) 0 ?_ ?_ (fun k hx5 K5 hK5=>?_)
  · exact Nat.zero_le _
  · refine C2 ?_ ?_ ?_ ?_ <;> (try simp (disch:=omega) only [amL,sF,sG,↓reduceIte]); all_goals first | rfl | trace_state
  have hk:=hx5
  refine Ab fun K6 hK6=>?_
  refine Ad fun K7 hK7=>?_
  simp (disch:=omega) only [amL,amT,sA,sF,↓reduceIte,reduceCtorEq]
  refine hK7 _ ?_
  refine Ai rfl (fun h=>MT.x ?_) (fun h=>ME.x ?_)
  all_goals
   first
   |refine MT.mk ?_
    first
    |exact Bool.noConfusion h
    |skip
     try simp only [nrm] at h
     refine Am ?_
     refine hK6 _ ?_
   |refine ME.mk ?_
    first
    |exact Bool.noConfusion h
    |skip
     try simp only [nrm] at h
     refine B2 ?_
     refine hK3 _ ?_
     refine Ad fun K8 hK8=>?_
     simp (disch:=omega) only [amL,amT,sB,sF,↓reduceIte]
     refine hK8 _ ?_
     refine Af ?_
     try simp (disch:=omega) only [amL,amT,sB,sF,↓reduceIte]
     all_goals first | (rw [List.take_of_length_le (by simp; omega),List.take_of_length_le (by omega)]; done) | trace_state
  all_goals
   skip
   refine Ab fun K9 hK9=>?_
   refine Aj ?_
   refine Ad fun K10 hK10=>?_
   simp (disch:=omega) only [En,amL,amT,sA,sB,sF,↓reduceIte,reduceCtorEq]
   refine hK10 _ ?_
   refine Bx (by kernel_rfl) (by kernel_rfl) ?_
   simp (disch:=omega) only [amL,amT,sA,sB,sE,sF,↓reduceIte,reduceCtorEq]
   repeat' first | (refine Aw (by kernel_rfl) rfl (Apj ⟨_,_⟩) (by first | exact .inl rfl | exact .inr (.inl rfl)) ?_ ; simp (disch:=omega) only [amL,amT,sA,sB,sC,sE,sF,↓reduceIte,reduceCtorEq])
   refine hK9 _ ?_
   refine Ak ?_
   simp (disch:=omega) only [amL,amT,sA,sF,↓reduceIte]
   refine hK5 (k+1) _ ?_ ?_ (C2 ?_ ?_ ?_ ?_)
   all_goals (try simp (disch:=omega) only [amL,sF,sG,↓reduceIte])
   all_goals first | omega | exact (congrArg (AO.arr 5) (Ab9 default (by omega))).symm | trace_state
theorem N8 (n lo hi:Int):Bo Try.prog 92 [i64 n,i64 lo,i64 hi] (bl (inB n lo hi)):=by
  refine A0 (v:=[]) (q:=[]) (N:=15) (rs:=[.tmp 6]) Try.func92 rfl rfl rfl rfl rfl ?_
  refine Ad fun K1 hK1=>?_
  simp (disch:=omega) only [amL,sA,sB]
  refine hK1 _ ?_
  refine Ad fun K2 hK2=>?_
  simp (disch:=omega) only [amL,amT,sA,sF,↓reduceIte,reduceCtorEq]
  repeat' first | (refine Ck (fun h=>?_) (fun h=>?_) <;> simp (disch:=omega) only [h,amL,amT,sA,sF,↓reduceIte,reduceCtorEq]) | (refine Bp (fun h=>?_) (fun h=>?_) <;> simp (disch:=omega) only [h,amL,amT,sA,sB,sC,sD,sE,sF,sG,sH,sI,sJ,sK,sL,sM,sN,sO,↓reduceIte,reduceCtorEq])
  all_goals
   skip
   refine hK2 _ ?_
   refine Af ?_
   try simp (disch:=omega) only [amL,↓reduceIte]
   simp [inB,h]
theorem Aug (r:Rng) (n:Int):Bo Try.prog 60 [avR r,i64 n] (bl (Jy r n)):=by
  refine A0 (v:=[]) (q:=[]) (N:=11) (rs:=[.tmp 4]) Try.func60 rfl rfl rfl rfl rfl ?_
  refine Ad fun K1 hK1=>?_
  simp (disch:=omega) only [amL,sA,sB,↓reduceIte]
  refine hK1 _ ?_
  refine Ad fun K2 hK2=>?_
  simp (disch:=omega) only [amL,amT,sA,sF,↓reduceIte,reduceCtorEq]
  repeat' first | (refine Aw (by kernel_rfl) rfl (N8 _ _ _) (by first | exact .inl rfl | exact .inr (.inl rfl)) ?_ ; simp (disch:=omega) only [amL,sA,↓reduceIte])
  refine hK2 _ ?_
  refine Af ?_
  try simp (disch:=omega) only [amL,↓reduceIte]
  rfl
theorem Aoh (r:Rng) (h1:-9223372036854775808≤r.hi - r.lo) (h2:r.hi - r.lo < 9223372036854775807):Bo Try.prog 98 [avR r] (i64 (Ji r)):=by
  refine A0 (v:=[]) (q:=[]) (N:=9) (rs:=[.tmp 2]) Try.func98 rfl rfl rfl rfl rfl ?_
  refine Ad fun K1 hK1=>?_
  simp (disch:=omega) only [amL,sA,↓reduceIte]
  refine hK1 _ ?_
  refine Ad fun K2 hK2=>?_
  simp (disch:=omega) only [amL,amT,sA,sF,↓reduceIte,reduceCtorEq]
  refine hK2 _ ?_
  refine Af ?_
  try simp (disch:=omega) only [amL,↓reduceIte]
  rfl
theorem Ajc {r:Rng} {most:Int}:J9 r most=(decide (0≤r.lo)&&(decide (r.lo≤r.hi)&&(decide (r.hi≤most)&&decide (r.hi - r.lo≤2)))):=rfl
theorem Yj (r:Rng) (most:Int) (hm:most < 9223372036854775807):Bo Try.prog 146 [avR r,i64 most] (bl (J9 r most)):=by
  refine A0 (v:=[]) (q:=[]) (N:=29) (rs:=[.tmp 4]) Try.func146 rfl rfl rfl rfl rfl ?_
  refine Ad fun K1 hK1=>?_
  simp (disch:=omega) only [amL,sA,sB,↓reduceIte]
  refine hK1 _ ?_
  refine Ad fun K2 hK2=>?_
  simp (disch:=omega) only [amL,amT,sA,sF,↓reduceIte,reduceCtorEq]
  repeat' first | (refine Ck (fun h=>?_) (fun h=>?_) <;> simp (disch:=omega) only [h,amL,amT,sA,sF,↓reduceIte,reduceCtorEq]) | (refine Bp (fun h=>?_) (fun h=>?_) <;> simp (disch:=omega) only [h,amL,amT,sA,sB,sC,sD,sE,sF,sG,sH,sI,sJ,sK,sL,sM,sN,sO,↓reduceIte,reduceCtorEq])
  all_goals
   skip
   refine hK2 _ ?_
   refine Af ?_
   try simp (disch:=omega) only [amL,↓reduceIte]
   all_goals (simp_all [Ajc] <;> omega)
theorem Ajn (v:Ves):Bo Try.prog 102 [avV v] (bl (Kd v)):=by
  refine A0 (v:=[]) (q:=[]) (N:=16) (rs:=[.tmp 2]) Try.func102 rfl rfl rfl rfl rfl ?_
  refine Ad fun K1 hK1=>?_
  simp (disch:=omega) only [amL,sA,↓reduceIte]
  refine hK1 _ ?_
  refine Ad fun K2 hK2=>?_
  simp (disch:=omega) only [amL,amT,sA,sB,sE,sF,↓reduceIte,reduceCtorEq]
  repeat' first | (refine Ck (fun h=>?_) (fun h=>?_) <;> simp (disch:=omega) only [h,amL,amT,sA,sB,sC,sD,sE,sF,sG,sH,sI,sJ,sK,sL,sM,sN,sO,↓reduceIte,reduceCtorEq]) | (refine Bp (fun h=>?_) (fun h=>?_) <;> simp (disch:=omega) only [h,amL,amT,sA,sB,sE,sF,↓reduceIte,reduceCtorEq]) | (refine Aw (by kernel_rfl) rfl (Yj ⟨_,_⟩ _ (by omega)) (by first | exact .inl rfl | exact .inr (.inl rfl)) ?_ ; simp (disch:=omega) only [amL,sA,sF,↓reduceIte]) | (refine Aw (by kernel_rfl) rfl (N8 _ _ _) (by first | exact .inl rfl | exact .inr (.inl rfl)) ?_ ; simp (disch:=omega) only [amL,sA,sF,↓reduceIte])
  all_goals
   skip
   refine hK2 _ ?_
   refine Af ?_
   try simp (disch:=omega) only [amL,↓reduceIte]
   all_goals simp_all [Kd]
theorem Amq {b:E9} {n:Int} {nb:Nat} {os:Nat→Option AO} {bd:Nat} (hb:os nb=some (.cells (cB b))) (hl:b.vs.length < 1000000) :
    Bs Try.prog bd (.fn (.func 145) [] [.ptr nb 0]) [i64 n] os fun res os'=>res=bl (inB n 0 ((b.vs.length:Int) - 1))∧os'=os:=by
  refine B9 (v:=[]) (q:=[]) (N:=10) (rs:=[.tmp 3]) Try.func145 rfl (by kernel_rfl) rfl rfl (fun hcl hfree=>?_)
  refine Ad fun K1 hK1=>?_
  simp (disch:=omega) only [amL,sA,sB]
  refine hK1 _ ?_
  refine Ad fun K2 hK2=>?_
  simp (disch:=omega) only [hb,amL,amT,sA,sF,↓reduceIte,reduceCtorEq]
  repeat' first | (refine Aw (by kernel_rfl) rfl (N8 _ _ _) (by first | exact .inl rfl | exact .inr (.inl rfl)) ?_ ; simp (disch:=omega) only [amL,sA,↓reduceIte])
  refine hK2 _ ?_
  refine Af ?_
  try simp (disch:=omega) only [amL]
  refine Bj (res:=bl _) os (by simp (disch:=omega) only [amL,↓reduceIte]; try rfl) (Sub.refl _) hcl (AV.lives_p _ _) ⟨rfl,rfl⟩
theorem Ag5 {n:Int} {s:Stp}:H7 n s=(inB s.kind 0 2&&(inB s.frm 0 (n - 1)&&(inB s.to 0 (n - 1)&&((decide (s.frm=s.to) == !decide (s.kind=0))&&J9 s.g 60)))):=rfl
theorem Aoq (b:E9) (s:Stp) (hl:b.vs.length < 1000000):Bo Try.prog 97 [avB b,avS s] (bl (H7 b.vs.length s)):=by
  refine A0 (v:=[]) (q:=[]) (N:=38) (rs:=[.tmp 4]) Try.func97 rfl rfl rfl rfl rfl ?_
  obtain ⟨e,he⟩:∃ e:Bool,(decide (s.frm=s.to) == decide (s.kind≠0))=e:=⟨_,rfl⟩
  refine Ad fun K1 hK1=>?_
  simp (disch:=omega) only [amL,sA,sB,sF,↓reduceIte,reduceCtorEq]
  refine hK1 _ ?_
  refine Ad fun K2 hK2=>?_
  simp (disch:=omega) only [amL,sA,sF,↓reduceIte]
  refine hK2 _ ?_
  refine Ad fun K3 hK3=>?_
  simp (disch:=omega) only [amL,amT,sA,sF,↓reduceIte,reduceCtorEq]
  repeat' first | (refine Ck (fun h=>?_) (fun h=>?_) <;> simp (disch:=omega) only [h,he,amL,amT,sA,sB,sC,sD,sE,sF,sG,sH,sI,sJ,sK,sL,sM,sN,sO,↓reduceIte,reduceCtorEq]) | (refine Bp (fun h=>?_) (fun h=>?_) <;> simp (disch:=omega) only [h,he,amL,amT,sA,sB,sF,↓reduceIte,reduceCtorEq]) | (refine Aw (by kernel_rfl) rfl (N8 _ _ _) (by first | exact .inl rfl | exact .inr (.inl rfl)) ?_ ; simp (disch:=omega) only [amL,sA,↓reduceIte]) | (refine Aw (by kernel_rfl) rfl (Yj ⟨_,_⟩ _ (by omega)) (by first | exact .inl rfl | exact .inr (.inl rfl)) ?_ ; simp (disch:=omega) only [amL,sA,sF,↓reduceIte]) | (refine Ca (bd:=38) (by decide) (Amq (b:=b) rfl hl) (Gg rfl) (by decide) rfl ?_ ; simp (disch:=omega) only [amL,sA,sF,↓reduceIte])
  all_goals
   skip
   refine hK3 _ ?_
   refine Af ?_
   try simp (disch:=omega) only [amL,↓reduceIte]
   all_goals simp_all [Ag5]
end AM.Try
end
