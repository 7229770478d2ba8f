/- Lemmas for the proof: an abstract machine over the program's form in Lean, and the program's functions walked on it. -/
import Derived.Test.YtbgiddcgdgdmbaaQ4
import Derived.Test.YtbgiddcgdgdmbaaProg
import Derived.KernelRfl
/- What the program's tables say of its types, read off once. -/
section
namespace AM.Try
open Go AM Go.Proofs
theorem ty1:Aa Try.prog 1=⟨.other,1,8,[.nilFunc]⟩:=by kernel_rfl
theorem ty2:Aa Try.prog 2=⟨.int .i64,1,8,[.int .i64 0]⟩:=by kernel_rfl
theorem ty3:Aa Try.prog 3=⟨.int .i64,1,8,[.int .i64 0]⟩:=by kernel_rfl
theorem ty4:Aa Try.prog 4=⟨.bool,1,1,[.bool false]⟩:=by kernel_rfl
theorem ty5:Aa Try.prog 5=⟨.int .u8,1,1,[.int .u8 0]⟩:=by kernel_rfl
theorem ty6:Aa Try.prog 6=⟨.int .u8,1,1,[.int .u8 0]⟩:=by kernel_rfl
theorem ty7:Aa Try.prog 7=⟨.struct [(0,2),(1,3),(2,4),(3,6)],4,24,[.int .i64 0,.int .i64 0,.bool false,.int .u8 0]⟩:=by kernel_rfl
theorem ty8:Aa Try.prog 8=⟨.struct [(0,2),(1,3),(2,4),(3,6)],4,24,[.int .i64 0,.int .i64 0,.bool false,.int .u8 0]⟩:=by kernel_rfl
theorem Bb9:Aa Try.prog 12=⟨.int .u64,1,8,[.int .u64 0]⟩:=by kernel_rfl
theorem Bcz:Aa Try.prog 15=⟨.other,1,8,[.pointer none]⟩:=by kernel_rfl
theorem Bex:Aa Try.prog 16=⟨.other,1,8,[.pointer none]⟩:=by kernel_rfl
theorem Bcu:Aa Try.prog 17=⟨.other,1,8,[.pointer none]⟩:=by kernel_rfl
theorem Bcm:Aa Try.prog 18=⟨.struct [(0,17)],1,8,[.pointer none]⟩:=by kernel_rfl
theorem Bdy:Aa Try.prog 19=⟨.struct [(0,17)],1,8,[.pointer none]⟩:=by kernel_rfl
theorem Be8:Aa Try.prog 20=⟨.other,1,16,[.nilIface]⟩:=by kernel_rfl
theorem Bgb:Aa Try.prog 21=⟨.int .i32,1,4,[.int .i32 0]⟩:=by kernel_rfl
theorem Bet:Aa Try.prog 22=⟨.sl 3,1,24,[.slice none 0 0]⟩:=by kernel_rfl
theorem Bc4:Aa Try.prog 23=⟨.sl 22,1,24,[.slice none 0 0]⟩:=by kernel_rfl
theorem Bec:Aa Try.prog 24=⟨.struct [(0,22),(1,22),(2,23)],3,72,[.slice none 0 0,.slice none 0 0,.slice none 0 0]⟩:=by kernel_rfl
theorem Bc8:Aa Try.prog 25=⟨.struct [(0,22),(1,22),(2,23)],3,72,[.slice none 0 0,.slice none 0 0,.slice none 0 0]⟩:=by kernel_rfl
theorem Bfy:Aa Try.prog 26=⟨.sl 36,1,24,[.slice none 0 0]⟩:=by kernel_rfl
theorem Bf6:Aa Try.prog 27=⟨.struct [(0,25),(3,3),(4,26)],5,104,[.slice none 0 0,.slice none 0 0,.slice none 0 0,.int .i64 0,.slice none 0 0]⟩:=by kernel_rfl
theorem Bfb:Aa Try.prog 28=⟨.struct [(0,25),(3,3),(4,26)],5,104,[.slice none 0 0,.slice none 0 0,.slice none 0 0,.int .i64 0,.slice none 0 0]⟩:=by kernel_rfl
theorem Bdo:Aa Try.prog 29=⟨.other,1,8,[.nilFunc]⟩:=by kernel_rfl
theorem Bfl:Aa Try.prog 30=⟨.other,1,8,[.nilFunc]⟩:=by kernel_rfl
theorem Bep:Aa Try.prog 31=⟨.other,1,8,[.nilFunc]⟩:=by kernel_rfl
theorem Bdm:Aa Try.prog 32=⟨.other,1,8,[.pointer none]⟩:=by kernel_rfl
theorem Bc7:Aa Try.prog 33=⟨.struct [(0,3),(1,3)],2,16,[.int .i64 0,.int .i64 0]⟩:=by kernel_rfl
theorem Ber:Aa Try.prog 34=⟨.struct [(0,3),(1,3)],2,16,[.int .i64 0,.int .i64 0]⟩:=by kernel_rfl
theorem Be7:Aa Try.prog 35=⟨.struct [(0,3),(1,34),(3,34)],5,40,[.int .i64 0,.int .i64 0,.int .i64 0,.int .i64 0,.int .i64 0]⟩:=by kernel_rfl
theorem Bcq:Aa Try.prog 36=⟨.struct [(0,3),(1,34),(3,34)],5,40,[.int .i64 0,.int .i64 0,.int .i64 0,.int .i64 0,.int .i64 0]⟩:=by kernel_rfl
theorem Bdx:Aa Try.prog 37=⟨.sl 52,1,24,[.slice none 0 0]⟩:=by kernel_rfl
theorem Bcp:Aa Try.prog 38=⟨.int .i64,1,8,[.int .i64 0]⟩:=by kernel_rfl
theorem Beo:Aa Try.prog 40=⟨.other,1,8,[.nilFunc]⟩:=by kernel_rfl
theorem Bd2:Aa Try.prog 41=⟨.struct [(0,22),(1,22),(2,23)],3,72,[.slice none 0 0,.slice none 0 0,.slice none 0 0]⟩:=by kernel_rfl
theorem Be5:Aa Try.prog 42=⟨.sl 146,1,24,[.slice none 0 0]⟩:=by kernel_rfl
theorem Bgg:Aa Try.prog 43=⟨.struct [(0,41),(3,3),(4,42)],5,104,[.slice none 0 0,.slice none 0 0,.slice none 0 0,.int .i64 0,.slice none 0 0]⟩:=by kernel_rfl
theorem Bf2:Aa Try.prog 44=⟨.struct [(0,41),(3,3),(4,42)],5,104,[.slice none 0 0,.slice none 0 0,.slice none 0 0,.int .i64 0,.slice none 0 0]⟩:=by kernel_rfl
theorem Bd5:Aa Try.prog 45=⟨.other,1,8,[.nilFunc]⟩:=by kernel_rfl
theorem Bgh:Aa Try.prog 46=⟨.sl 56,1,24,[.slice none 0 0]⟩:=by kernel_rfl
theorem Bfw:Aa Try.prog 47=⟨.sl 58,1,24,[.slice none 0 0]⟩:=by kernel_rfl
theorem Bdv:Aa Try.prog 48=⟨.struct [(0,46),(1,47)],2,48,[.slice none 0 0,.slice none 0 0]⟩:=by kernel_rfl
theorem Bee:Aa Try.prog 49=⟨.struct [(0,46),(1,47)],2,48,[.slice none 0 0,.slice none 0 0]⟩:=by kernel_rfl
theorem Bcj:Aa Try.prog 50=⟨.struct [(0,22),(1,22),(2,22)],3,72,[.slice none 0 0,.slice none 0 0,.slice none 0 0]⟩:=by kernel_rfl
theorem Bdz:Aa Try.prog 51=⟨.struct [(0,22),(1,22),(2,22)],3,72,[.slice none 0 0,.slice none 0 0,.slice none 0 0]⟩:=by kernel_rfl
theorem Bf0:Aa Try.prog 52=⟨.struct [(0,3),(1,3)],2,16,[.int .i64 0,.int .i64 0]⟩:=by kernel_rfl
theorem Bcl:Aa Try.prog 53=⟨.struct [(0,3),(1,3)],2,16,[.int .i64 0,.int .i64 0]⟩:=by kernel_rfl
theorem Bc9:Aa Try.prog 54=⟨.other,1,8,[.nilFunc]⟩:=by kernel_rfl
theorem Bdn:Aa Try.prog 55=⟨.struct [(0,53),(2,53),(4,3)],5,40,[.int .i64 0,.int .i64 0,.int .i64 0,.int .i64 0,.int .i64 0]⟩:=by kernel_rfl
theorem Be2:Aa Try.prog 56=⟨.struct [(0,53),(2,53),(4,3)],5,40,[.int .i64 0,.int .i64 0,.int .i64 0,.int .i64 0,.int .i64 0]⟩:=by kernel_rfl
theorem Bcx:Aa Try.prog 57=⟨.struct [(0,3),(1,3),(2,3),(3,53)],5,40,[.int .i64 0,.int .i64 0,.int .i64 0,.int .i64 0,.int .i64 0]⟩:=by kernel_rfl
theorem Bgm:Aa Try.prog 58=⟨.struct [(0,3),(1,3),(2,3),(3,53)],5,40,[.int .i64 0,.int .i64 0,.int .i64 0,.int .i64 0,.int .i64 0]⟩:=by kernel_rfl
theorem Bf3:Aa Try.prog 60=⟨.other,1,8,[.nilFunc]⟩:=by kernel_rfl
theorem Bfd:Aa Try.prog 61=⟨.sl 65,1,24,[.slice none 0 0]⟩:=by kernel_rfl
theorem Bc0:Aa Try.prog 63=⟨.other,1,8,[.nilFunc]⟩:=by kernel_rfl
theorem Bd3:Aa Try.prog 64=⟨.struct [(0,3),(1,3),(2,3)],3,24,[.int .i64 0,.int .i64 0,.int .i64 0]⟩:=by kernel_rfl
theorem Bb8:Aa Try.prog 65=⟨.struct [(0,3),(1,3),(2,3)],3,24,[.int .i64 0,.int .i64 0,.int .i64 0]⟩:=by kernel_rfl
theorem Be1:Aa Try.prog 66=⟨.other,1,8,[.nilFunc]⟩:=by kernel_rfl
theorem Bdd:Aa Try.prog 68=⟨.other,1,8,[.nilFunc]⟩:=by kernel_rfl
theorem Bfx:Aa Try.prog 69=⟨.other,1,8,[.nilFunc]⟩:=by kernel_rfl
theorem Bf8:Aa Try.prog 70=⟨.struct [(0,3),(1,3)],2,16,[.int .i64 0,.int .i64 0]⟩:=by kernel_rfl
theorem Bed:Aa Try.prog 71=⟨.struct [(0,3),(1,3)],2,16,[.int .i64 0,.int .i64 0]⟩:=by kernel_rfl
theorem Bea:Aa Try.prog 72=⟨.sl 71,1,24,[.slice none 0 0]⟩:=by kernel_rfl
theorem Bfe:Aa Try.prog 73=⟨.sl 78,1,24,[.slice none 0 0]⟩:=by kernel_rfl
theorem Bcw:Aa Try.prog 74=⟨.struct [(0,3),(1,3),(2,3),(3,3),(4,72),(5,73)],6,80,[.int .i64 0,.int .i64 0,.int .i64 0,.int .i64 0,.slice none 0 0,.slice none 0 0]⟩:=by kernel_rfl
theorem Beh:Aa Try.prog 75=⟨.struct [(0,3),(1,3),(2,3),(3,3),(4,72),(5,73)],6,80,[.int .i64 0,.int .i64 0,.int .i64 0,.int .i64 0,.slice none 0 0,.slice none 0 0]⟩:=by kernel_rfl
theorem Bda:Aa Try.prog 76=⟨.struct [(0,3),(1,3)],2,16,[.int .i64 0,.int .i64 0]⟩:=by kernel_rfl
theorem Bfi:Aa Try.prog 77=⟨.struct [(0,3),(1,3),(2,76),(4,3)],5,40,[.int .i64 0,.int .i64 0,.int .i64 0,.int .i64 0,.int .i64 0]⟩:=by kernel_rfl
theorem Bem:Aa Try.prog 78=⟨.struct [(0,3),(1,3),(2,76),(4,3)],5,40,[.int .i64 0,.int .i64 0,.int .i64 0,.int .i64 0,.int .i64 0]⟩:=by kernel_rfl
theorem Bci:Aa Try.prog 79=⟨.other,1,8,[.nilFunc]⟩:=by kernel_rfl
theorem Bgk:Aa Try.prog 80=⟨.sl 90,1,24,[.slice none 0 0]⟩:=by kernel_rfl
theorem Bdj:Aa Try.prog 82=⟨.other,1,8,[.nilFunc]⟩:=by kernel_rfl
theorem Bfk:Aa Try.prog 83=⟨.sl 173,1,24,[.slice none 0 0]⟩:=by kernel_rfl
theorem Bfm:Aa Try.prog 84=⟨.sl 175,1,24,[.slice none 0 0]⟩:=by kernel_rfl
theorem Bej:Aa Try.prog 85=⟨.struct [(0,3),(1,3),(2,3),(3,3),(4,83),(5,84)],6,80,[.int .i64 0,.int .i64 0,.int .i64 0,.int .i64 0,.slice none 0 0,.slice none 0 0]⟩:=by kernel_rfl
theorem Bgl:Aa Try.prog 86=⟨.struct [(0,3),(1,3),(2,3),(3,3),(4,83),(5,84)],6,80,[.int .i64 0,.int .i64 0,.int .i64 0,.int .i64 0,.slice none 0 0,.slice none 0 0]⟩:=by kernel_rfl
theorem Bfc:Aa Try.prog 87=⟨.other,1,8,[.nilFunc]⟩:=by kernel_rfl
theorem Bdk:Aa Try.prog 89=⟨.other,1,8,[.nilFunc]⟩:=by kernel_rfl
theorem Bdu:Aa Try.prog 90=⟨.struct [(0,3),(1,3)],2,16,[.int .i64 0,.int .i64 0]⟩:=by kernel_rfl
theorem Bdl:Aa Try.prog 91=⟨.struct [(0,3),(1,3)],2,16,[.int .i64 0,.int .i64 0]⟩:=by kernel_rfl
theorem Bgi:Aa Try.prog 92=⟨.sl 91,1,24,[.slice none 0 0]⟩:=by kernel_rfl
theorem Bfv:Aa Try.prog 93=⟨.sl 53,1,24,[.slice none 0 0]⟩:=by kernel_rfl
theorem Bcv:Aa Try.prog 94=⟨.other,1,8,[.nilFunc]⟩:=by kernel_rfl
theorem Bc5:Aa Try.prog 95=⟨.other,1,8,[.nilFunc]⟩:=by kernel_rfl
theorem Be6:Aa Try.prog 96=⟨.other,1,8,[.nilFunc]⟩:=by kernel_rfl
theorem Bft:Aa Try.prog 97=⟨.other,1,8,[.nilFunc]⟩:=by kernel_rfl
theorem Bdb:Aa Try.prog 98=⟨.other,1,8,[.nilFunc]⟩:=by kernel_rfl
theorem Bf4:Aa Try.prog 99=⟨.other,1,8,[.nilFunc]⟩:=by kernel_rfl
theorem Awi:Aa Try.prog 100=⟨.other,1,8,[.nilFunc]⟩:=by kernel_rfl
theorem Awo:Aa Try.prog 101=⟨.other,1,8,[.nilFunc]⟩:=by kernel_rfl
theorem Awg:Aa Try.prog 102=⟨.other,1,8,[.nilFunc]⟩:=by kernel_rfl
theorem Atj:Aa Try.prog 103=⟨.other,1,8,[.nilFunc]⟩:=by kernel_rfl
theorem As4:Aa Try.prog 105=⟨.other,1,8,[.nilFunc]⟩:=by kernel_rfl
theorem Ayi:Aa Try.prog 106=⟨.other,1,8,[.nilFunc]⟩:=by kernel_rfl
theorem Aye:Aa Try.prog 107=⟨.other,1,8,[.nilFunc]⟩:=by kernel_rfl
theorem Ay7:Aa Try.prog 108=⟨.other,1,8,[.nilFunc]⟩:=by kernel_rfl
theorem Axu:Aa Try.prog 109=⟨.other,1,8,[.nilFunc]⟩:=by kernel_rfl
theorem Aus:Aa Try.prog 110=⟨.other,1,8,[.nilFunc]⟩:=by kernel_rfl
theorem Aun:Aa Try.prog 111=⟨.struct [(0,3),(1,53),(3,53)],5,40,[.int .i64 0,.int .i64 0,.int .i64 0,.int .i64 0,.int .i64 0]⟩:=by kernel_rfl
theorem Ave:Aa Try.prog 112=⟨.struct [(0,3),(1,53),(3,53)],5,40,[.int .i64 0,.int .i64 0,.int .i64 0,.int .i64 0,.int .i64 0]⟩:=by kernel_rfl
theorem Awa:Aa Try.prog 113=⟨.sl 112,1,24,[.slice none 0 0]⟩:=by kernel_rfl
theorem Axy:Aa Try.prog 114=⟨.other,1,8,[.nilFunc]⟩:=by kernel_rfl
theorem Axk:Aa Try.prog 115=⟨.sl 139,1,24,[.slice none 0 0]⟩:=by kernel_rfl
theorem Atl:Aa Try.prog 117=⟨.other,1,8,[.nilFunc]⟩:=by kernel_rfl
theorem Avr:Aa Try.prog 118=⟨.other,1,8,[.nilFunc]⟩:=by kernel_rfl
theorem Axq:Aa Try.prog 119=⟨.other,1,8,[.nilFunc]⟩:=by kernel_rfl
theorem Au8:Aa Try.prog 120=⟨.sl 129,1,24,[.slice none 0 0]⟩:=by kernel_rfl
theorem Axj:Aa Try.prog 121=⟨.sl 132,1,24,[.slice none 0 0]⟩:=by kernel_rfl
theorem Azb:Aa Try.prog 122=⟨.struct [(0,120),(1,121)],2,48,[.slice none 0 0,.slice none 0 0]⟩:=by kernel_rfl
theorem Avn:Aa Try.prog 123=⟨.struct [(0,120),(1,121)],2,48,[.slice none 0 0,.slice none 0 0]⟩:=by kernel_rfl
theorem Axg:Aa Try.prog 124=⟨.struct [(0,3),(1,91),(3,91)],5,40,[.int .i64 0,.int .i64 0,.int .i64 0,.int .i64 0,.int .i64 0]⟩:=by kernel_rfl
theorem Auf:Aa Try.prog 125=⟨.struct [(0,3),(1,91),(3,91)],5,40,[.int .i64 0,.int .i64 0,.int .i64 0,.int .i64 0,.int .i64 0]⟩:=by kernel_rfl
theorem As0:Aa Try.prog 126=⟨.other,1,8,[.nilFunc]⟩:=by kernel_rfl
theorem Awm:Aa Try.prog 127=⟨.other,1,8,[.pointer none]⟩:=by kernel_rfl
theorem Atm:Aa Try.prog 128=⟨.struct [(0,91),(2,91),(4,3)],5,40,[.int .i64 0,.int .i64 0,.int .i64 0,.int .i64 0,.int .i64 0]⟩:=by kernel_rfl
theorem Av5:Aa Try.prog 129=⟨.struct [(0,91),(2,91),(4,3)],5,40,[.int .i64 0,.int .i64 0,.int .i64 0,.int .i64 0,.int .i64 0]⟩:=by kernel_rfl
theorem Ax8:Aa Try.prog 130=⟨.other,1,8,[.pointer none]⟩:=by kernel_rfl
theorem Azd:Aa Try.prog 131=⟨.struct [(0,3),(1,3),(2,3),(3,91)],5,40,[.int .i64 0,.int .i64 0,.int .i64 0,.int .i64 0,.int .i64 0]⟩:=by kernel_rfl
theorem Asy:Aa Try.prog 132=⟨.struct [(0,3),(1,3),(2,3),(3,91)],5,40,[.int .i64 0,.int .i64 0,.int .i64 0,.int .i64 0,.int .i64 0]⟩:=by kernel_rfl
theorem Awx:Aa Try.prog 133=⟨.other,1,8,[.nilFunc]⟩:=by kernel_rfl
theorem Axx:Aa Try.prog 134=⟨.other,1,8,[.nilFunc]⟩:=by kernel_rfl
theorem Ayh:Aa Try.prog 135=⟨.other,1,8,[.nilFunc]⟩:=by kernel_rfl
theorem Auj:Aa Try.prog 136=⟨.sl 125,1,24,[.slice none 0 0]⟩:=by kernel_rfl
theorem Ay4:Aa Try.prog 137=⟨.other,1,8,[.nilFunc]⟩:=by kernel_rfl
theorem Ay2:Aa Try.prog 138=⟨.struct [(0,53),(2,53),(4,53)],6,48,[.int .i64 0,.int .i64 0,.int .i64 0,.int .i64 0,.int .i64 0,.int .i64 0]⟩:=by kernel_rfl
theorem Aym:Aa Try.prog 139=⟨.struct [(0,53),(2,53),(4,53)],6,48,[.int .i64 0,.int .i64 0,.int .i64 0,.int .i64 0,.int .i64 0,.int .i64 0]⟩:=by kernel_rfl
theorem Ate:Aa Try.prog 140=⟨.other,1,8,[.nilFunc]⟩:=by kernel_rfl
theorem Axv:Aa Try.prog 141=⟨.other,1,8,[.nilFunc]⟩:=by kernel_rfl
theorem Aw8:Aa Try.prog 142=⟨.other,1,8,[.nilFunc]⟩:=by kernel_rfl
theorem Axl:Aa Try.prog 143=⟨.other,1,8,[.nilFunc]⟩:=by kernel_rfl
theorem Awd:Aa Try.prog 144=⟨.other,1,8,[.nilFunc]⟩:=by kernel_rfl
theorem Ayx:Aa Try.prog 145=⟨.struct [(0,3),(1,52),(3,52)],5,40,[.int .i64 0,.int .i64 0,.int .i64 0,.int .i64 0,.int .i64 0]⟩:=by kernel_rfl
theorem Ato:Aa Try.prog 146=⟨.struct [(0,3),(1,52),(3,52)],5,40,[.int .i64 0,.int .i64 0,.int .i64 0,.int .i64 0,.int .i64 0]⟩:=by kernel_rfl
theorem Ayb:Aa Try.prog 147=⟨.other,1,8,[.pointer none]⟩:=by kernel_rfl
theorem Ay1:Aa Try.prog 149=⟨.other,1,8,[.nilFunc]⟩:=by kernel_rfl
theorem Aw7:Aa Try.prog 150=⟨.arr 6 3,6,48,[.int .i64 0,.int .i64 0,.int .i64 0,.int .i64 0,.int .i64 0,.int .i64 0]⟩:=by kernel_rfl
theorem Axh:Aa Try.prog 151=⟨.arr 6 3,6,48,[.int .i64 0,.int .i64 0,.int .i64 0,.int .i64 0,.int .i64 0,.int .i64 0]⟩:=by kernel_rfl
theorem Aup:Aa Try.prog 152=⟨.struct [(0,44),(5,37),(6,151),(12,151)],18,224,[.slice none 0 0,.slice none 0 0,.slice none 0 0,.int .i64 0,.slice none 0 0,.slice none 0 0,.int .i64 0,.int .i64 0,.int .i64 0,.int .i64 0,.int .i64 0,.int .i64 0,.int .i64 0,.int .i64 0,.int .i64 0,.int .i64 0,.int .i64 0,.int .i64 0]⟩:=by kernel_rfl
theorem As1:Aa Try.prog 153=⟨.struct [(0,44),(5,37),(6,151),(12,151)],18,224,[.slice none 0 0,.slice none 0 0,.slice none 0 0,.int .i64 0,.slice none 0 0,.slice none 0 0,.int .i64 0,.int .i64 0,.int .i64 0,.int .i64 0,.int .i64 0,.int .i64 0,.int .i64 0,.int .i64 0,.int .i64 0,.int .i64 0,.int .i64 0,.int .i64 0]⟩:=by kernel_rfl
theorem Axc:Aa Try.prog 154=⟨.other,1,8,[.nilFunc]⟩:=by kernel_rfl
theorem Avo:Aa Try.prog 155=⟨.other,1,8,[.nilFunc]⟩:=by kernel_rfl
theorem Av8:Aa Try.prog 156=⟨.other,1,8,[.nilFunc]⟩:=by kernel_rfl
theorem Au0:Aa Try.prog 157=⟨.other,1,8,[.nilFunc]⟩:=by kernel_rfl
theorem Ax2:Aa Try.prog 158=⟨.struct [(0,22),(1,3)],2,32,[.slice none 0 0,.int .i64 0]⟩:=by kernel_rfl
theorem Auo:Aa Try.prog 159=⟨.struct [(0,22),(1,3)],2,32,[.slice none 0 0,.int .i64 0]⟩:=by kernel_rfl
theorem Avb:Aa Try.prog 160=⟨.other,1,8,[.nilFunc]⟩:=by kernel_rfl
theorem Avp:Aa Try.prog 161=⟨.other,1,8,[.nilFunc]⟩:=by kernel_rfl
theorem As5:Aa Try.prog 162=⟨.other,1,8,[.nilFunc]⟩:=by kernel_rfl
theorem Axb:Aa Try.prog 163=⟨.struct [(0,3),(1,3)],2,16,[.int .i64 0,.int .i64 0]⟩:=by kernel_rfl
theorem Avx:Aa Try.prog 164=⟨.struct [(0,3),(1,3)],2,16,[.int .i64 0,.int .i64 0]⟩:=by kernel_rfl
theorem Auc:Aa Try.prog 165=⟨.arr 4 164,8,64,[.int .i64 0,.int .i64 0,.int .i64 0,.int .i64 0,.int .i64 0,.int .i64 0,.int .i64 0,.int .i64 0]⟩:=by kernel_rfl
theorem Ag3:Aa Try.prog 166=⟨.arr 4 164,8,64,[.int .i64 0,.int .i64 0,.int .i64 0,.int .i64 0,.int .i64 0,.int .i64 0,.int .i64 0,.int .i64 0]⟩:=by kernel_rfl
theorem Awt:Aa Try.prog 168=⟨.other,1,8,[.pointer none]⟩:=by kernel_rfl
theorem Aue:Aa Try.prog 169=⟨.other,1,8,[.nilFunc]⟩:=by kernel_rfl
theorem Asw:Aa Try.prog 170=⟨.other,1,8,[.nilFunc]⟩:=by kernel_rfl
theorem As6:Aa Try.prog 171=⟨.sl 164,1,24,[.slice none 0 0]⟩:=by kernel_rfl
theorem Aw5:Aa Try.prog 172=⟨.other,1,8,[.nilFunc]⟩:=by kernel_rfl
theorem Avz:Aa Try.prog 173=⟨.struct [(0,3),(1,3)],2,16,[.int .i64 0,.int .i64 0]⟩:=by kernel_rfl
theorem Ax0:Aa Try.prog 174=⟨.struct [(0,3),(1,3),(2,90),(4,3)],5,40,[.int .i64 0,.int .i64 0,.int .i64 0,.int .i64 0,.int .i64 0]⟩:=by kernel_rfl
theorem Ayu:Aa Try.prog 175=⟨.struct [(0,3),(1,3),(2,90),(4,3)],5,40,[.int .i64 0,.int .i64 0,.int .i64 0,.int .i64 0,.int .i64 0]⟩:=by kernel_rfl
theorem At2:Aa Try.prog 176=⟨.other,1,8,[.nilFunc]⟩:=by kernel_rfl
theorem Avl:Aa Try.prog 177=⟨.other,1,8,[.nilFunc]⟩:=by kernel_rfl
theorem Ayq:Aa Try.prog 178=⟨.other,1,8,[.nilFunc]⟩:=by kernel_rfl
theorem Awq:Aa Try.prog 179=⟨.other,1,8,[.nilFunc]⟩:=by kernel_rfl
theorem Ayc:Aa Try.prog 180=⟨.arr 12 3,12,96,[.int .i64 0,.int .i64 0,.int .i64 0,.int .i64 0,.int .i64 0,.int .i64 0,.int .i64 0,.int .i64 0,.int .i64 0,.int .i64 0,.int .i64 0,.int .i64 0]⟩:=by kernel_rfl
theorem Au6:Aa Try.prog 181=⟨.arr 12 3,12,96,[.int .i64 0,.int .i64 0,.int .i64 0,.int .i64 0,.int .i64 0,.int .i64 0,.int .i64 0,.int .i64 0,.int .i64 0,.int .i64 0,.int .i64 0,.int .i64 0]⟩:=by kernel_rfl
theorem Aw0:Aa Try.prog 182=⟨.other,1,8,[.nilFunc]⟩:=by kernel_rfl
theorem Awy:Aa Try.prog 183=⟨.other,1,8,[.nilFunc]⟩:=by kernel_rfl
theorem Awz:Aa Try.prog 184=⟨.other,1,8,[.nilFunc]⟩:=by kernel_rfl
theorem Atc:Aa Try.prog 185=⟨.other,1,8,[.nilFunc]⟩:=by kernel_rfl
theorem Aug:Aa Try.prog 186=⟨.other,1,8,[.nilFunc]⟩:=by kernel_rfl
theorem Aum:Aa Try.prog 187=⟨.other,1,8,[.nilFunc]⟩:=by kernel_rfl
theorem As8:Aa Try.prog 188=⟨.other,1,8,[.nilFunc]⟩:=by kernel_rfl
theorem Axm:Aa Try.prog 189=⟨.other,1,8,[.nilFunc]⟩:=by kernel_rfl
theorem Atx:Aa Try.prog 190=⟨.other,1,8,[.nilFunc]⟩:=by kernel_rfl
theorem Aud:Aa Try.prog 191=⟨.other,1,8,[.nilFunc]⟩:=by kernel_rfl
theorem Azk:Aa Try.prog 192=⟨.other,1,8,[.nilFunc]⟩:=by kernel_rfl
theorem Auk:Aa Try.prog 193=⟨.other,1,8,[.nilFunc]⟩:=by kernel_rfl
theorem Aya:Aa Try.prog 194=⟨.mp 3 4,1,8,[.map none]⟩:=by kernel_rfl
theorem Avt:Aa Try.prog 196=⟨.other,1,8,[.nilFunc]⟩:=by kernel_rfl
theorem Avh:Aa Try.prog 197=⟨.other,1,8,[.nilFunc]⟩:=by kernel_rfl
theorem Awb:Aa Try.prog 198=⟨.other,1,8,[.nilFunc]⟩:=by kernel_rfl
theorem Axi:Aa Try.prog 199=⟨.other,1,8,[.nilFunc]⟩:=by kernel_rfl
theorem Ayp:Aa Try.prog 200=⟨.other,1,8,[.nilFunc]⟩:=by kernel_rfl
theorem At6:Aa Try.prog 201=⟨.other,1,8,[.nilFunc]⟩:=by kernel_rfl
theorem Aw1:Aa Try.prog 202=⟨.other,1,8,[.nilFunc]⟩:=by kernel_rfl
theorem Azj:Aa Try.prog 203=⟨.struct [(0,202)],1,8,[.nilFunc]⟩:=by kernel_rfl
theorem Ayf:Aa Try.prog 204=⟨.struct [(0,202)],1,8,[.nilFunc]⟩:=by kernel_rfl
theorem Aw2:Aa Try.prog 205=⟨.arr 3 204,3,24,[.nilFunc,.nilFunc,.nilFunc]⟩:=by kernel_rfl
theorem As7:Aa Try.prog 206=⟨.other,1,8,[.nilFunc]⟩:=by kernel_rfl
theorem Av6:Aa Try.prog 207=⟨.other,1,8,[.pointer none]⟩:=by kernel_rfl
theorem Ayo:Aa Try.prog 209=⟨.other,1,8,[.nilFunc]⟩:=by kernel_rfl
theorem Atz:Aa Try.prog 210=⟨.other,1,8,[.nilFunc]⟩:=by kernel_rfl
theorem Atb:Aa Try.prog 211=⟨.other,1,8,[.nilFunc]⟩:=by kernel_rfl
theorem Aut:Aa Try.prog 212=⟨.other,1,8,[.nilFunc]⟩:=by kernel_rfl
theorem Av3:Aa Try.prog 213=⟨.other,1,8,[.nilFunc]⟩:=by kernel_rfl
theorem Asv:Aa Try.prog 214=⟨.other,1,8,[.nilFunc]⟩:=by kernel_rfl
theorem Aux:Aa Try.prog 215=⟨.other,1,8,[.nilFunc]⟩:=by kernel_rfl
theorem Asu:Aa Try.prog 216=⟨.other,1,8,[.nilFunc]⟩:=by kernel_rfl
theorem At9:Aa Try.prog 217=⟨.other,1,8,[.nilFunc]⟩:=by kernel_rfl
theorem Ayk:Aa Try.prog 218=⟨.other,1,8,[.pointer none]⟩:=by kernel_rfl
theorem Avu:Aa Try.prog 219=⟨.other,1,8,[.nilFunc]⟩:=by kernel_rfl
theorem Ax3:Aa Try.prog 220=⟨.other,1,8,[.nilFunc]⟩:=by kernel_rfl
theorem At3:Aa Try.prog 221=⟨.other,1,8,[.nilFunc]⟩:=by kernel_rfl
theorem Av1:Aa Try.prog 222=⟨.other,1,8,[.nilFunc]⟩:=by kernel_rfl
theorem Avd:Aa Try.prog 223=⟨.other,1,8,[.nilFunc]⟩:=by kernel_rfl
theorem Ati:Aa Try.prog 224=⟨.struct [(0,22),(1,22),(2,22)],3,72,[.slice none 0 0,.slice none 0 0,.slice none 0 0]⟩:=by kernel_rfl
theorem Auv:Aa Try.prog 225=⟨.other,1,8,[.nilFunc]⟩:=by kernel_rfl
theorem Axt:Aa Try.prog 226=⟨.other,1,8,[.nilFunc]⟩:=by kernel_rfl
theorem Asx:Aa Try.prog 227=⟨.other,1,8,[.nilFunc]⟩:=by kernel_rfl
theorem Azi:Aa Try.prog 228=⟨.other,1,8,[.nilFunc]⟩:=by kernel_rfl
theorem Avi:Aa Try.prog 229=⟨.other,1,8,[.nilFunc]⟩:=by kernel_rfl
theorem Aw9:Aa Try.prog 230=⟨.other,1,8,[.nilFunc]⟩:=by kernel_rfl
theorem Ayz:Aa Try.prog 231=⟨.arr 2 3,2,16,[.int .i64 0,.int .i64 0]⟩:=by kernel_rfl
theorem Avw:Aa Try.prog 233=⟨.other,1,8,[.nilFunc]⟩:=by kernel_rfl
theorem As2:Aa Try.prog 234=⟨.other,1,8,[.nilFunc]⟩:=by kernel_rfl
theorem Axa:Aa Try.prog 235=⟨.mp 256 258,1,8,[.map none]⟩:=by kernel_rfl
theorem Aua:Aa Try.prog 236=⟨.struct [(0,49),(2,235)],3,56,[.slice none 0 0,.slice none 0 0,.map none]⟩:=by kernel_rfl
theorem Ayw:Aa Try.prog 237=⟨.struct [(0,49),(2,235)],3,56,[.slice none 0 0,.slice none 0 0,.map none]⟩:=by kernel_rfl
theorem Au7:Aa Try.prog 238=⟨.other,1,8,[.nilFunc]⟩:=by kernel_rfl
theorem Ayy:Aa Try.prog 239=⟨.other,1,8,[.nilFunc]⟩:=by kernel_rfl
theorem Auq:Aa Try.prog 240=⟨.other,1,8,[.nilFunc]⟩:=by kernel_rfl
theorem Ay8:Aa Try.prog 241=⟨.other,1,8,[.nilFunc]⟩:=by kernel_rfl
theorem Azg:Aa Try.prog 242=⟨.other,1,8,[.nilFunc]⟩:=by kernel_rfl
theorem Ay6:Aa Try.prog 243=⟨.other,1,8,[.nilFunc]⟩:=by kernel_rfl
theorem Avf:Aa Try.prog 244=⟨.other,1,8,[.nilFunc]⟩:=by kernel_rfl
theorem Aze:Aa Try.prog 245=⟨.other,1,8,[.nilFunc]⟩:=by kernel_rfl
theorem Atr:Aa Try.prog 247=⟨.other,1,8,[.nilFunc]⟩:=by kernel_rfl
theorem Atv:Aa Try.prog 248=⟨.other,1,8,[.nilFunc]⟩:=by kernel_rfl
theorem Atw:Aa Try.prog 249=⟨.other,1,8,[.nilFunc]⟩:=by kernel_rfl
theorem Ayn:Aa Try.prog 250=⟨.other,1,8,[.nilFunc]⟩:=by kernel_rfl
theorem Azc:Aa Try.prog 251=⟨.other,1,8,[.nilFunc]⟩:=by kernel_rfl
theorem Axw:Aa Try.prog 252=⟨.other,1,8,[.nilFunc]⟩:=by kernel_rfl
theorem Axe:Aa Try.prog 253=⟨.other,1,8,[.nilFunc]⟩:=by kernel_rfl
theorem At7:Aa Try.prog 254=⟨.other,1,8,[.nilFunc]⟩:=by kernel_rfl
theorem Aza:Aa Try.prog 255=⟨.struct [(0,58),(5,3),(6,166)],14,112,[.int .i64 0,.int .i64 0,.int .i64 0,.int .i64 0,.int .i64 0,.int .i64 0,.int .i64 0,.int .i64 0,.int .i64 0,.int .i64 0,.int .i64 0,.int .i64 0,.int .i64 0,.int .i64 0]⟩:=by kernel_rfl
theorem Auw:Aa Try.prog 256=⟨.struct [(0,58),(5,3),(6,166)],14,112,[.int .i64 0,.int .i64 0,.int .i64 0,.int .i64 0,.int .i64 0,.int .i64 0,.int .i64 0,.int .i64 0,.int .i64 0,.int .i64 0,.int .i64 0,.int .i64 0,.int .i64 0,.int .i64 0]⟩:=by kernel_rfl
theorem Awl:Aa Try.prog 257=⟨.struct [(0,166),(8,4)],9,72,[.int .i64 0,.int .i64 0,.int .i64 0,.int .i64 0,.int .i64 0,.int .i64 0,.int .i64 0,.int .i64 0,.bool false]⟩:=by kernel_rfl
theorem Ay0:Aa Try.prog 258=⟨.struct [(0,166),(8,4)],9,72,[.int .i64 0,.int .i64 0,.int .i64 0,.int .i64 0,.int .i64 0,.int .i64 0,.int .i64 0,.int .i64 0,.bool false]⟩:=by kernel_rfl
theorem Azn:Aa Try.prog 260=⟨.other,1,8,[.nilFunc]⟩:=by kernel_rfl
theorem Atn:Aa Try.prog 261=⟨.other,1,8,[.nilFunc]⟩:=by kernel_rfl
theorem Azh:Aa Try.prog 262=⟨.other,1,8,[.nilFunc]⟩:=by kernel_rfl
theorem Au3:Aa Try.prog 263=⟨.other,1,8,[.nilFunc]⟩:=by kernel_rfl
theorem Aui:Aa Try.prog 264=⟨.other,1,8,[.nilFunc]⟩:=by kernel_rfl
theorem Av0:Aa Try.prog 265=⟨.struct [(0,3),(1,3)],2,16,[.int .i64 0,.int .i64 0]⟩:=by kernel_rfl
theorem At4:Aa Try.prog 267=⟨.other,1,8,[.nilFunc]⟩:=by kernel_rfl
theorem Au5:Aa Try.prog 268=⟨.other,1,8,[.nilFunc]⟩:=by kernel_rfl
theorem Axf:Aa Try.prog 269=⟨.other,1,8,[.nilFunc]⟩:=by kernel_rfl
theorem Awk:Aa Try.prog 270=⟨.other,1,8,[.nilFunc]⟩:=by kernel_rfl
theorem Au9:Aa Try.prog 271=⟨.other,1,8,[.nilFunc]⟩:=by kernel_rfl
theorem Azm:Aa Try.prog 272=⟨.other,1,8,[.nilFunc]⟩:=by kernel_rfl
theorem Axs:Aa Try.prog 273=⟨.struct [(0,272)],1,8,[.nilFunc]⟩:=by kernel_rfl
theorem Ayr:Aa Try.prog 274=⟨.struct [(0,272)],1,8,[.nilFunc]⟩:=by kernel_rfl
theorem Atd:Aa Try.prog 275=⟨.arr 2 274,2,16,[.nilFunc,.nilFunc]⟩:=by kernel_rfl
theorem Awj:Aa Try.prog 276=⟨.other,1,8,[.nilFunc]⟩:=by kernel_rfl
theorem Aub:Aa Try.prog 277=⟨.other,1,8,[.nilFunc]⟩:=by kernel_rfl
theorem Auu:Aa Try.prog 278=⟨.other,1,8,[.nilFunc]⟩:=by kernel_rfl
theorem Avg:Aa Try.prog 279=⟨.other,1,8,[.pointer none]⟩:=by kernel_rfl
theorem Avs:Aa Try.prog 280=⟨.mp 289 3,1,8,[.map none]⟩:=by kernel_rfl
theorem Aty:Aa Try.prog 281=⟨.struct [(0,86),(6,3),(7,3),(8,280)],9,104,[.int .i64 0,.int .i64 0,.int .i64 0,.int .i64 0,.slice none 0 0,.slice none 0 0,.int .i64 0,.int .i64 0,.map none]⟩:=by kernel_rfl
theorem Avk:Aa Try.prog 282=⟨.struct [(0,86),(6,3),(7,3),(8,280)],9,104,[.int .i64 0,.int .i64 0,.int .i64 0,.int .i64 0,.slice none 0 0,.slice none 0 0,.int .i64 0,.int .i64 0,.map none]⟩:=by kernel_rfl
theorem Axo:Aa Try.prog 283=⟨.other,1,8,[.nilFunc]⟩:=by kernel_rfl
theorem Aw3:Aa Try.prog 284=⟨.struct [(0,283)],1,8,[.nilFunc]⟩:=by kernel_rfl
theorem Avj:Aa Try.prog 285=⟨.struct [(0,283)],1,8,[.nilFunc]⟩:=by kernel_rfl
theorem Aul:Aa Try.prog 286=⟨.arr 4 285,4,32,[.nilFunc,.nilFunc,.nilFunc,.nilFunc]⟩:=by kernel_rfl
theorem Awh:Aa Try.prog 287=⟨.other,1,8,[.nilFunc]⟩:=by kernel_rfl
theorem Atg:Aa Try.prog 288=⟨.struct [(0,175),(5,3)],6,48,[.int .i64 0,.int .i64 0,.int .i64 0,.int .i64 0,.int .i64 0,.int .i64 0]⟩:=by kernel_rfl
theorem Au4:Aa Try.prog 289=⟨.struct [(0,175),(5,3)],6,48,[.int .i64 0,.int .i64 0,.int .i64 0,.int .i64 0,.int .i64 0,.int .i64 0]⟩:=by kernel_rfl
theorem Aw4:Aa Try.prog 290=⟨.other,1,8,[.nilFunc]⟩:=by kernel_rfl
theorem Awv:Aa Try.prog 291=⟨.other,1,8,[.nilFunc]⟩:=by kernel_rfl
theorem Axr:Aa Try.prog 292=⟨.other,1,8,[.pointer none]⟩:=by kernel_rfl
theorem Att:Aa Try.prog 293=⟨.other,1,8,[.nilFunc]⟩:=by kernel_rfl
theorem Awf:Aa Try.prog 294=⟨.other,1,8,[.nilFunc]⟩:=by kernel_rfl
theorem Ayg:Aa Try.prog 295=⟨.other,1,8,[.nilFunc]⟩:=by kernel_rfl
theorem As3:Aa Try.prog 296=⟨.other,1,8,[.nilFunc]⟩:=by kernel_rfl
theorem Ayl:Aa Try.prog 297=⟨.other,1,8,[.nilFunc]⟩:=by kernel_rfl
theorem Atp:Aa Try.prog 298=⟨.other,1,8,[.nilFunc]⟩:=by kernel_rfl
theorem Axz:Aa Try.prog 299=⟨.other,1,8,[.nilFunc]⟩:=by kernel_rfl
theorem Awp:Aa Try.prog 300=⟨.other,1,8,[.nilFunc]⟩:=by kernel_rfl
theorem Ayd:Aa Try.prog 301=⟨.other,1,8,[.nilFunc]⟩:=by kernel_rfl
theorem Ayt:Aa Try.prog 302=⟨.other,1,8,[.nilFunc]⟩:=by kernel_rfl
theorem Atk:Aa Try.prog 303=⟨.other,1,8,[.nilFunc]⟩:=by kernel_rfl
theorem Au2:Aa Try.prog 304=⟨.other,1,8,[.nilFunc]⟩:=by kernel_rfl
theorem Ata:Aa Try.prog 305=⟨.other,1,8,[.nilFunc]⟩:=by kernel_rfl
theorem Ay9:Aa Try.prog 306=⟨.other,1,8,[.nilFunc]⟩:=by kernel_rfl
theorem Azl:Aa Try.prog 307=⟨.other,1,8,[.nilFunc]⟩:=by kernel_rfl
theorem Ays:Aa Try.prog 308=⟨.other,1,8,[.nilFunc]⟩:=by kernel_rfl
theorem Ax4:Aa Try.prog 309=⟨.other,1,8,[.nilFunc]⟩:=by kernel_rfl
theorem Axp:Aa Try.prog 310=⟨.other,1,8,[.nilFunc]⟩:=by kernel_rfl
theorem Avc:Aa Try.prog 311=⟨.other,1,8,[.nilFunc]⟩:=by kernel_rfl
theorem As9:Aa Try.prog 312=⟨.struct [(0,3),(1,3),(2,3)],3,24,[.int .i64 0,.int .i64 0,.int .i64 0]⟩:=by kernel_rfl
theorem Azf:Aa Try.prog 313=⟨.sl 312,1,24,[.slice none 0 0]⟩:=by kernel_rfl
theorem Av7:Aa Try.prog 315=⟨.other,1,8,[.nilFunc]⟩:=by kernel_rfl
theorem Avq:Aa Try.prog 318=⟨.arr 0 16,0,0,[]⟩:=by kernel_rfl
theorem Awr:Aa Try.prog 319=⟨.struct [(0,318)],0,0,[]⟩:=by kernel_rfl
theorem Awu:Aa Try.prog 320=⟨.struct [(0,318)],0,0,[]⟩:=by kernel_rfl
theorem At1:Aa Try.prog 321=⟨.int .u32,1,4,[.int .u32 0]⟩:=by kernel_rfl
theorem Aw6:Aa Try.prog 322=⟨.int .u8,1,1,[.int .u8 0]⟩:=by kernel_rfl
theorem Ax6:Aa Try.prog 323=⟨.int .u8,1,1,[.int .u8 0]⟩:=by kernel_rfl
theorem Ax9:Aa Try.prog 324=⟨.other,1,8,[.nilFunc]⟩:=by kernel_rfl
theorem Ayj:Aa Try.prog 325=⟨.other,1,8,[.pointer none]⟩:=by kernel_rfl
theorem Ay3:Aa Try.prog 326=⟨.int .i32,1,4,[.int .i32 0]⟩:=by kernel_rfl
theorem Ath:Aa Try.prog 327=⟨.int .i32,1,4,[.int .i32 0]⟩:=by kernel_rfl
theorem Atf:Aa Try.prog 328=⟨.struct [(0,12),(1,12),(2,321),(3,322),(4,5),(5,5),(6,323),(7,324),(8,325),(9,326),(10,327)],11,48,[.int .u64 0,.int .u64 0,.int .u32 0,.int .u8 0,.int .u8 0,.int .u8 0,.int .u8 0,.nilFunc,.pointer none,.int .i32 0,.int .i32 0]⟩:=by kernel_rfl
theorem Av4:Aa Try.prog 329=⟨.struct [(0,12),(1,12),(2,321),(3,322),(4,5),(5,5),(6,323),(7,324),(8,325),(9,326),(10,327)],11,48,[.int .u64 0,.int .u64 0,.int .u32 0,.int .u8 0,.int .u8 0,.int .u8 0,.int .u8 0,.nilFunc,.pointer none,.int .i32 0,.int .i32 0]⟩:=by kernel_rfl
theorem Ava:Aa Try.prog 330=⟨.other,1,8,[.pointer none]⟩:=by kernel_rfl
def Bd4:=PLift.up (And.intro @ty1 (And.intro @ty2 (And.intro @ty3 (And.intro @ty4 (And.intro @ty5 (And.intro @ty6 (And.intro @ty7 (And.intro @ty8 (And.intro @Bb9 (And.intro @Bcz (And.intro @Bex (And.intro @Bcu (And.intro @Bcm (And.intro @Bdy (And.intro @Be8 (And.intro @Bgb (And.intro @Bet (And.intro @Bc4 (And.intro @Bec (And.intro @Bc8 (And.intro @Bfy (And.intro @Bf6 (And.intro @Bfb (@Bdo))))))))))))))))))))))))
def Bck:=PLift.up (And.intro @Bfl (And.intro @Bep (And.intro @Bdm (And.intro @Bc7 (And.intro @Ber (And.intro @Be7 (And.intro @Bcq (And.intro @Bdx (And.intro @Bcp (And.intro @Beo (And.intro @Bd2 (And.intro @Be5 (And.intro @Bgg (And.intro @Bf2 (And.intro @Bd5 (And.intro @Bgh (And.intro @Bfw (And.intro @Bdv (And.intro @Bee (And.intro @Bcj (And.intro @Bdz (And.intro @Bf0 (And.intro @Bcl (@Bc9))))))))))))))))))))))))
def Bev:=PLift.up (And.intro @Bdn (And.intro @Be2 (And.intro @Bcx (And.intro @Bgm (And.intro @Bf3 (And.intro @Bfd (And.intro @Bc0 (And.intro @Bd3 (And.intro @Bb8 (And.intro @Be1 (And.intro @Bdd (And.intro @Bfx (And.intro @Bf8 (And.intro @Bed (And.intro @Bea (And.intro @Bfe (And.intro @Bcw (And.intro @Beh (And.intro @Bda (And.intro @Bfi (And.intro @Bem (And.intro @Bci (And.intro @Bgk (@Bdj))))))))))))))))))))))))
def Be3:=PLift.up (And.intro @Bfk (And.intro @Bfm (And.intro @Bej (And.intro @Bgl (And.intro @Bfc (And.intro @Bdk (And.intro @Bdu (And.intro @Bdl (And.intro @Bgi (And.intro @Bfv (And.intro @Bcv (And.intro @Bc5 (And.intro @Be6 (And.intro @Bft (And.intro @Bdb (And.intro @Bf4 (And.intro @Awi (And.intro @Awo (And.intro @Awg (And.intro @Atj (And.intro @As4 (And.intro @Ayi (And.intro @Aye (@Ay7))))))))))))))))))))))))
def Bcb:=PLift.up (And.intro @Axu (And.intro @Aus (And.intro @Aun (And.intro @Ave (And.intro @Awa (And.intro @Axy (And.intro @Axk (And.intro @Atl (And.intro @Avr (And.intro @Axq (And.intro @Au8 (And.intro @Axj (And.intro @Azb (And.intro @Avn (And.intro @Axg (And.intro @Auf (And.intro @As0 (And.intro @Awm (And.intro @Atm (And.intro @Av5 (And.intro @Ax8 (And.intro @Azd (And.intro @Asy (@Awx))))))))))))))))))))))))
def Bd0:=PLift.up (And.intro @Axx (And.intro @Ayh (And.intro @Auj (And.intro @Ay4 (And.intro @Ay2 (And.intro @Aym (And.intro @Ate (And.intro @Axv (And.intro @Aw8 (And.intro @Axl (And.intro @Awd (And.intro @Ayx (And.intro @Ato (And.intro @Ayb (And.intro @Ay1 (And.intro @Aw7 (And.intro @Axh (And.intro @Aup (And.intro @As1 (And.intro @Axc (And.intro @Avo (And.intro @Av8 (And.intro @Au0 (@Ax2))))))))))))))))))))))))
def Bdq:=PLift.up (And.intro @Auo (And.intro @Avb (And.intro @Avp (And.intro @As5 (And.intro @Axb (And.intro @Avx (And.intro @Auc (And.intro @Ag3 (And.intro @Awt (And.intro @Aue (And.intro @Asw (And.intro @As6 (And.intro @Aw5 (And.intro @Avz (And.intro @Ax0 (And.intro @Ayu (And.intro @At2 (And.intro @Avl (And.intro @Ayq (And.intro @Awq (And.intro @Ayc (And.intro @Au6 (And.intro @Aw0 (@Awy))))))))))))))))))))))))
def Bfo:=PLift.up (And.intro @Awz (And.intro @Atc (And.intro @Aug (And.intro @Aum (And.intro @As8 (And.intro @Axm (And.intro @Atx (And.intro @Aud (And.intro @Azk (And.intro @Auk (And.intro @Aya (And.intro @Avt (And.intro @Avh (And.intro @Awb (And.intro @Axi (And.intro @Ayp (And.intro @At6 (And.intro @Aw1 (And.intro @Azj (And.intro @Ayf (And.intro @Aw2 (And.intro @As7 (And.intro @Av6 (@Ayo))))))))))))))))))))))))
def Bco:=PLift.up (And.intro @Atz (And.intro @Atb (And.intro @Aut (And.intro @Av3 (And.intro @Asv (And.intro @Aux (And.intro @Asu (And.intro @At9 (And.intro @Ayk (And.intro @Avu (And.intro @Ax3 (And.intro @At3 (And.intro @Av1 (And.intro @Avd (And.intro @Ati (And.intro @Auv (And.intro @Axt (And.intro @Asx (And.intro @Azi (And.intro @Avi (And.intro @Aw9 (And.intro @Ayz (And.intro @Avw (@As2))))))))))))))))))))))))
def Bfr:=PLift.up (And.intro @Axa (And.intro @Aua (And.intro @Ayw (And.intro @Au7 (And.intro @Ayy (And.intro @Auq (And.intro @Ay8 (And.intro @Azg (And.intro @Ay6 (And.intro @Avf (And.intro @Aze (And.intro @Atr (And.intro @Atv (And.intro @Atw (And.intro @Ayn (And.intro @Azc (And.intro @Axw (And.intro @Axe (And.intro @At7 (And.intro @Aza (And.intro @Auw (And.intro @Awl (And.intro @Ay0 (@Azn))))))))))))))))))))))))
def Baz:=PLift.up (And.intro @Atn (And.intro @Azh (And.intro @Au3 (And.intro @Aui (And.intro @Av0 (And.intro @At4 (And.intro @Au5 (And.intro @Axf (And.intro @Awk (And.intro @Au9 (And.intro @Azm (And.intro @Axs (And.intro @Ayr (And.intro @Atd (And.intro @Awj (And.intro @Aub (And.intro @Auu (And.intro @Avg (And.intro @Avs (And.intro @Aty (And.intro @Avk (And.intro @Axo (And.intro @Aw3 (@Avj))))))))))))))))))))))))
def Ba6:=PLift.up (And.intro @Aul (And.intro @Awh (And.intro @Atg (And.intro @Au4 (And.intro @Aw4 (And.intro @Awv (And.intro @Axr (And.intro @Att (And.intro @Awf (And.intro @Ayg (And.intro @As3 (And.intro @Ayl (And.intro @Atp (And.intro @Axz (And.intro @Awp (And.intro @Ayd (And.intro @Ayt (And.intro @Atk (And.intro @Au2 (And.intro @Ata (And.intro @Ay9 (And.intro @Azl (And.intro @Ays (@Ax4))))))))))))))))))))))))
def Ba2:=PLift.up (And.intro @Axp (And.intro @Avc (And.intro @As9 (And.intro @Azf (And.intro @Av7 (And.intro @Avq (And.intro @Awr (And.intro @Awu (And.intro @At1 (And.intro @Aw6 (And.intro @Ax6 (And.intro @Ax9 (And.intro @Ayj (And.intro @Ay3 (And.intro @Ath (And.intro @Atf (And.intro @Av4 (@Ava))))))))))))))))))
def Bca:=PLift.up (And.intro Bd4.down (And.intro Bck.down (And.intro Bev.down (And.intro Be3.down (And.intro Bcb.down (And.intro Bd0.down (And.intro Bdq.down (And.intro Bfo.down (And.intro Bco.down (And.intro Bfr.down (And.intro Baz.down (And.intro Ba6.down (Ba2.down)))))))))))))
theorem amT:type_of% Bca.down:=Bca.down
end AM.Try
end
/- The program's small functions: ranges, vessels, steps. -/
section
namespace AM.Try
open Go AM AM.Wort Go.Proofs
open Nat renaming reduceLT→sA,reduceAdd→sB,reduceMul→sC,reduceSub→sD,reduceLeDiff→sE,reduceEqDiff→sF,reduceBEq→sG
open Int renaming reduceAdd→sH,reduceSub→sI,reduceMul→sJ,reduceLT→sK,reduceLE→sL,reduceNeg→sM,reduceToNat→sN,reduceEq→sO
set_option maxRecDepth 100000
set_option maxHeartbeats 8000000
theorem Kh (n lo hi:Int):Bv Try.prog 92 [i64 n,i64 lo,i64 hi] (bl (inB n lo hi)):=by
  refine Bo (v:=[]) (q:=[]) (N:=15) (rs:=[.tmp 6]) Try.func92 rfl rfl rfl rfl rfl ?_
  refine Ad fun K1 hK1=>?_
  simp (disch:=omega) only [amL,sA,sB]
  refine hK1 _ ?_
  refine Ad fun K2 hK2=>?_
  simp (disch:=omega) only [amL,amT,sA,sF,↓reduceIte,reduceCtorEq]
  repeat' first | (refine Eo (fun h=>?_) (fun h=>?_) <;> simp (disch:=omega) only [h,amL,amT,sA,sF,↓reduceIte,reduceCtorEq]) | (refine Cy (fun h=>?_) (fun h=>?_) <;> simp (disch:=omega) only [h,amL,amT,sA,sB,sC,sD,sE,sF,sG,sH,sI,sJ,sK,sL,sM,sN,sO,↓reduceIte,reduceCtorEq])
  all_goals
   skip
   refine hK2 _ ?_
   refine Aj ?_
   try simp (disch:=omega) only [amL,↓reduceIte]
   simp [inB,h]
theorem Agh (r:Rng) (n:Int):Bv Try.prog 60 [avR r,i64 n] (bl (Jm r n)):=by
  refine Bo (v:=[]) (q:=[]) (N:=11) (rs:=[.tmp 4]) Try.func60 rfl rfl rfl rfl rfl ?_
  refine Ad fun K1 hK1=>?_
  simp (disch:=omega) only [amL,sA,sB,↓reduceIte]
  refine hK1 _ ?_
  refine Ad fun K2 hK2=>?_
  simp (disch:=omega) only [amL,amT,sA,sF,↓reduceIte,reduceCtorEq]
  repeat' first | (refine Ax (by kernel_rfl) rfl (Kh _ _ _) (by first | exact .inl rfl | exact .inr (.inl rfl)) ?_ ; simp (disch:=omega) only [amL,sA,↓reduceIte])
  refine hK2 _ ?_
  refine Aj ?_
  try simp (disch:=omega) only [amL,↓reduceIte]
  rfl
theorem Afo (r:Rng) (h1:-9223372036854775808≤r.hi - r.lo) (h2:r.hi - r.lo < 9223372036854775807):Bv Try.prog 98 [avR r] (i64 (Fb r)):=by
  refine Bo (v:=[]) (q:=[]) (N:=9) (rs:=[.tmp 2]) Try.func98 rfl rfl rfl rfl rfl ?_
  refine Ad fun K1 hK1=>?_
  simp (disch:=omega) only [amL,sA,↓reduceIte]
  refine hK1 _ ?_
  refine Ad fun K2 hK2=>?_
  simp (disch:=omega) only [amL,amT,sA,sF,↓reduceIte,reduceCtorEq]
  refine hK2 _ ?_
  refine Aj ?_
  try simp (disch:=omega) only [amL,↓reduceIte]
  rfl
theorem Al3 {r:Rng} {most:Int}:H7 r most=(decide (0≤r.lo)&&(decide (r.lo≤r.hi)&&(decide (r.hi≤most)&&decide (r.hi - r.lo≤2)))):=rfl
theorem Acu (r:Rng) (most:Int) (hm:most < 9223372036854775807):Bv Try.prog 146 [avR r,i64 most] (bl (H7 r most)):=by
  refine Bo (v:=[]) (q:=[]) (N:=29) (rs:=[.tmp 4]) Try.func146 rfl rfl rfl rfl rfl ?_
  refine Ad fun K1 hK1=>?_
  simp (disch:=omega) only [amL,sA,sB,↓reduceIte]
  refine hK1 _ ?_
  refine Ad fun K2 hK2=>?_
  simp (disch:=omega) only [amL,amT,sA,sF,↓reduceIte,reduceCtorEq]
  repeat' first | (refine Eo (fun h=>?_) (fun h=>?_) <;> simp (disch:=omega) only [h,amL,amT,sA,sF,↓reduceIte,reduceCtorEq]) | (refine Cy (fun h=>?_) (fun h=>?_) <;> simp (disch:=omega) only [h,amL,amT,sA,sB,sC,sD,sE,sF,sG,sH,sI,sJ,sK,sL,sM,sN,sO,↓reduceIte,reduceCtorEq])
  all_goals
   skip
   refine hK2 _ ?_
   refine Aj ?_
   try simp (disch:=omega) only [amL,↓reduceIte]
   all_goals (simp_all [Al3] <;> omega)
theorem Ale (v:Ves):Bv Try.prog 102 [avV v] (bl (Eu v)):=by
  refine Bo (v:=[]) (q:=[]) (N:=16) (rs:=[.tmp 2]) Try.func102 rfl rfl rfl rfl rfl ?_
  refine Ad fun K1 hK1=>?_
  simp (disch:=omega) only [amL,sA,↓reduceIte]
  refine hK1 _ ?_
  refine Ad fun K2 hK2=>?_
  simp (disch:=omega) only [amL,amT,sA,sB,sE,sF,↓reduceIte,reduceCtorEq]
  repeat' first | (refine Eo (fun h=>?_) (fun h=>?_) <;> simp (disch:=omega) only [h,amL,amT,sA,sB,sC,sD,sE,sF,sG,sH,sI,sJ,sK,sL,sM,sN,sO,↓reduceIte,reduceCtorEq]) | (refine Cy (fun h=>?_) (fun h=>?_) <;> simp (disch:=omega) only [h,amL,amT,sA,sB,sE,sF,↓reduceIte,reduceCtorEq]) | (refine Ax (by kernel_rfl) rfl (Acu ⟨_,_⟩ _ (by omega)) (by first | exact .inl rfl | exact .inr (.inl rfl)) ?_ ; simp (disch:=omega) only [amL,sA,sF,↓reduceIte]) | (refine Ax (by kernel_rfl) rfl (Kh _ _ _) (by first | exact .inl rfl | exact .inr (.inl rfl)) ?_ ; simp (disch:=omega) only [amL,sA,sF,↓reduceIte])
  all_goals
   skip
   refine hK2 _ ?_
   refine Aj ?_
   try simp (disch:=omega) only [amL,↓reduceIte]
   all_goals simp_all [Eu]
theorem Arl {b:Ed} {n:Int} {nb:Nat} {os:Nat→Option AO} {bd:Nat} (hb:os nb=some (.cells (cB b))) (hl:b.vs.length < 1000000) :
    Bh Try.prog bd (.fn (.func 145) [] [.ptr nb 0]) [i64 n] os fun res os'=>res=bl (inB n 0 ((b.vs.length:Int) - 1))∧os'=os:=by
  refine B3 (v:=[]) (q:=[]) (N:=10) (rs:=[.tmp 3]) Try.func145 rfl (by kernel_rfl) rfl rfl (fun hcl hfree=>?_)
  refine Ad fun K1 hK1=>?_
  simp (disch:=omega) only [amL,sA,sB]
  refine hK1 _ ?_
  refine Ad fun K2 hK2=>?_
  simp (disch:=omega) only [hb,amL,amT,sA,sF,↓reduceIte,reduceCtorEq]
  repeat' first | (refine Ax (by kernel_rfl) rfl (Kh _ _ _) (by first | exact .inl rfl | exact .inr (.inl rfl)) ?_ ; simp (disch:=omega) only [amL,sA,↓reduceIte])
  refine hK2 _ ?_
  refine Aj ?_
  try simp (disch:=omega) only [amL]
  refine A6 (res:=bl _) os (by simp (disch:=omega) only [amL,↓reduceIte]; try rfl) (Sub.refl _) hcl (AV.lives_p _ _) ⟨rfl,rfl⟩
theorem Anf {n:Int} {s:Stp}:F4 n s=(inB s.kind 0 2&&(inB s.frm 0 (n - 1)&&(inB s.to 0 (n - 1)&&((decide (s.frm=s.to) == !decide (s.kind=0))&&H7 s.g 60)))):=rfl
theorem Bap (b:Ed) (s:Stp) (hl:b.vs.length < 1000000):Bv Try.prog 97 [avB b,avS s] (bl (F4 b.vs.length s)):=by
  refine Bo (v:=[]) (q:=[]) (N:=38) (rs:=[.tmp 4]) Try.func97 rfl rfl rfl rfl rfl ?_
  obtain ⟨e,he⟩:∃ e:Bool,(decide (s.frm=s.to) == decide (s.kind≠0))=e:=⟨_,rfl⟩
  refine Ad fun K1 hK1=>?_
  simp (disch:=omega) only [amL,sA,sB,sF,↓reduceIte,reduceCtorEq]
  refine hK1 _ ?_
  refine Ad fun K2 hK2=>?_
  simp (disch:=omega) only [amL,sA,sF,↓reduceIte]
  refine hK2 _ ?_
  refine Ad fun K3 hK3=>?_
  simp (disch:=omega) only [amL,amT,sA,sF,↓reduceIte,reduceCtorEq]
  repeat' first | (refine Eo (fun h=>?_) (fun h=>?_) <;> simp (disch:=omega) only [h,he,amL,amT,sA,sB,sC,sD,sE,sF,sG,sH,sI,sJ,sK,sL,sM,sN,sO,↓reduceIte,reduceCtorEq]) | (refine Cy (fun h=>?_) (fun h=>?_) <;> simp (disch:=omega) only [h,he,amL,amT,sA,sB,sF,↓reduceIte,reduceCtorEq]) | (refine Ax (by kernel_rfl) rfl (Kh _ _ _) (by first | exact .inl rfl | exact .inr (.inl rfl)) ?_ ; simp (disch:=omega) only [amL,sA,↓reduceIte]) | (refine Ax (by kernel_rfl) rfl (Acu ⟨_,_⟩ _ (by omega)) (by first | exact .inl rfl | exact .inr (.inl rfl)) ?_ ; simp (disch:=omega) only [amL,sA,sF,↓reduceIte]) | (refine Cc (bd:=38) (by decide) (Arl (b:=b) rfl hl) (Lg rfl) (by decide) rfl ?_ ; simp (disch:=omega) only [amL,sA,sF,↓reduceIte])
  all_goals
   skip
   refine hK3 _ ?_
   refine Aj ?_
   try simp (disch:=omega) only [amL,↓reduceIte]
   all_goals simp_all [Anf]
theorem Ar2 {os:Nat→Option AO} {n m:Nat} {x y:Option AO} (hm:os m=none) (hne:n≠m):Sub (upd os n x) (upd (upd os m y) n x):=fun k=>by
  by_cases e:k=n
  · subst e; right; rw [Bc,Bc]
  · rw [Ac e,Ac e]
    by_cases e2:k=m
    · subst e2; left; exact hm
    · right; rw [Ac e2]
theorem Zp {os:Nat→Option AO} {n:Nat} {x:Option AO} (h:os n=x):upd os n x=os:=by
  funext k; by_cases e:k=n
  · subst e; rw [Bc,h]
  · rw [Ac e]
theorem Pz {v:List Liq} {i:Nat} {x:AV} (h:(cW v)[i]?=some x):x.isP=true:=by
  unfold cW at h
  rw [List.getElem?_map,Option.map_eq_some_iff] at h
  obtain ⟨n,_,rfl⟩:=h
  rfl
theorem Tm {v w:List Liq} {tl:List AV} {nv:Nat} {os:Nat→Option AO} (hcl:(Hp os).closed) (ov:os nv=some (.cells (cW v++tl))):(Hp (upd os nv (some (.cells (cW w++tl))))).closed:=by
  refine Cr hcl (AO.lives_cells.2 fun i x hx=>?_)
  have hm:∀ m,(os m).isSome=true→(upd os nv (some (.cells (cW w++tl))) m).isSome=true:=fun m hm=>by
    by_cases e:m=nv
    · subst e; rw [Bc]; rfl
    · rw [Ac e]; exact hm
  by_cases h:i < (cW w).length
  · rw [List.getElem?_append_left h] at hx; exact A9 _ (Pz hx)
  · rw [List.getElem?_append_right (by omega)] at hx
    have h2:=AO.lives_cells.1 (hcl.2 nv _ ov) ((cW v).length+(i - (cW w).length)) x (by rw [List.getElem?_append_right (by omega)]; rw [← hx]; congr 1; omega)
    exact AV.lives_mono hm h2
theorem L1 {g e:Int} (h1:0≤g) (h2:g≤1000000) (h3:0≤e) (h4:e≤1000000000):-9223372036854775808≤(2 * e+g) / (2 * g)∧(2 * e+g) / (2 * g) < 9223372036854775808:=by
  have e1:0≤(2 * e+g) / (2 * g):=Int.ediv_nonneg (by omega) (by omega)
  have e2:=Int.ediv_le_self (2 * g) (show 0≤2 * e+g by omega)
  omega
theorem Ae6 {n e g:Int} (h1:0≤n) (h2:n≤1000000) (h3:0≤e) (h4:e≤1000000000) (_:0 < g):(0≤n * e∧n * e≤1000000000000000)∧True:=by
  refine ⟨⟨Int.mul_nonneg h1 h3,?_⟩,trivial⟩
  have:=Int.mul_le_mul h2 h4 h3 (by omega)
  omega
theorem Yw (l:Liq) (h:Rj l):Bv Try.prog 63 [avL l] (i64 (Q7 l)):=by
  obtain ⟨⟨h1,h2⟩,h3,h4⟩:=h
  refine Bo (v:=[]) (q:=[]) (N:=16) (rs:=[.tmp 2]) Try.func63 rfl rfl rfl rfl rfl ?_
  refine Ad fun K1 hK1=>?_
  simp (disch:=omega) only [amL,sA,↓reduceIte]
  refine hK1 _ ?_
  refine Ab fun K2 hK2=>?_
  refine Ad fun K3 hK3=>?_
  simp (disch:=omega) only [amL,amT,sA,sF,↓reduceIte,reduceCtorEq]
  refine hK3 _ ?_
  refine Al rfl (fun h=>MT.x ?_) (fun h=>ME.x ?_)
  all_goals
   first
   |refine MT.mk ?_
    first
    |exact Bool.noConfusion h
    |skip
     try simp only [nrm] at h
     refine Ad fun K4 hK4=>?_
     simp (disch:=omega) only [amL,sA]
     refine hK4 _ ?_
     refine Aj ?_
     try simp (disch:=omega) only [amL,↓reduceIte]
     first | (unfold Q7; rw [if_pos h]; done) | (unfold Q7; rw [if_neg h,Fc (L1 h1 h2 h3 h4).1 (L1 h1 h2 h3 h4).2])
   |refine ME.mk ?_
    first
    |exact Bool.noConfusion h
    |skip
     try simp only [nrm] at h
     refine Am ?_
     refine hK2 _ ?_
  all_goals
   skip
   refine Ad fun K5 hK5=>?_
   simp (disch:=omega) only [amL,amT,sA,sF,↓reduceIte,reduceCtorEq]
   refine hK5 _ ?_
   refine Aj ?_
   try simp (disch:=omega) only [amL,↓reduceIte]
   first | (unfold Q7; rw [if_pos h]; done) | (unfold Q7; rw [if_neg h,Fc (L1 h1 h2 h3 h4).1 (L1 h1 h2 h3 h4).2])
theorem Asn {v:List Liq} {tl:List AV} {s:Stp} {n:Int} {nv:Nat} {os:Nat→Option AO} {bd:Nat} (hw:G1 v) (hs:0≤s.to∧s.to.toNat < v.length∧s.to < 4) (hn:0≤n∧n≤1000000) (ov:os nv=some (.cells (cW v++tl))) :
    Bh Try.prog bd (.fn (.func 138) [] []) [.ptr nv 0,avS s,i64 n] os fun res os'=>res=bl (Pg v s.to.toNat n).2∧os'=upd os nv (some (.cells (cW (Pg v s.to.toNat n).1++tl))):=by
  refine B3 (v:=[]) (q:=[]) (N:=19) (rs:=[.tmp 6]) Try.func138 rfl (by kernel_rfl) rfl rfl (fun hcl hfree=>?_)
  have hfr0:∀ k,os (bd+k)=none:=fun k=>hfree _ (by omega)
  have hlt:=Ap hfree ov
  obtain ⟨⟨h1,h2⟩,h3,h4⟩:=hw s.to.toNat
  refine Ad fun K1 hK1=>?_
  simp (disch:=omega) only [hfr0,amL,sA,sB,↓reduceIte,reduceCtorEq]
  refine hK1 _ ?_
  refine Ab fun K2 hK2=>?_
  refine Ch (by kernel_rfl) (by kernel_rfl) ?_
  simp (disch:=omega) only [ov,Ac,tkG,Aby,Hf,amL,amT,sA,sF,sH,↓reduceIte,reduceCtorEq]
  refine hK2 _ ?_
  refine Ad fun K3 hK3=>?_
  simp (disch:=omega) only [amL,sA]
  refine hK3 _ ?_
  refine Aj ?_
  try simp (disch:=omega) only [amL]
  refine A6 (res:=bl _) (upd os nv (some (.cells (cW (Pg v s.to.toNat n).1++tl)))) (by simp (disch:=omega) only [amL,↓reduceIte]; try rfl) (Ar2 (hfr0 _) (by omega)) (Tm hcl ov) (AV.lives_p _ _) ⟨rfl,rfl⟩
theorem Az7 {v:List Liq} {tl:List AV} {s:Stp} {n:Int} {nv:Nat} {os:Nat→Option AO} {bd:Nat} (hw:G1 v) (hs:0≤s.frm∧s.frm.toNat < v.length∧s.frm < 4) (hn:0≤n∧n≤1000000) (ov:os nv=some (.cells (cW v++tl))) :
    Bh Try.prog bd (.fn (.func 139) [] []) [.ptr nv 0,avS s,i64 n] os fun res os'=>res=bl (Yo v s.frm.toNat n).2∧os'=upd os nv (some (.cells (cW (Yo v s.frm.toNat n).1++tl))):=by
  refine B3 (v:=[]) (q:=[]) (N:=39) (rs:=[.tmp 6]) Try.func139 rfl (by kernel_rfl) rfl rfl (fun hcl hfree=>?_)
  have hfr0:∀ k,os (bd+k)=none:=fun k=>hfree _ (by omega)
  have hlt:=Ap hfree ov
  obtain ⟨⟨h1,h2⟩,h3,h4⟩:=hw s.frm.toNat
  refine Ad fun K1 hK1=>?_
  simp (disch:=(first | omega | (simp only [List.length_set]; omega))) only [hfr0,amL,sA,sB,↓reduceIte,reduceCtorEq]
  refine hK1 _ ?_
  refine Ab fun K2 hK2=>?_
  refine Ch (by kernel_rfl) (by kernel_rfl) ?_
  simp (disch:=(first | omega | (simp only [List.length_set]; omega))) only [ov,Ac,Ds,Aby,Hf,amL,amT,sA,sF,sH,↓reduceIte,reduceCtorEq]
  refine hK2 _ ?_
  refine Ab fun K3 hK3=>?_
  refine Ch (by kernel_rfl) (by kernel_rfl) ?_
  simp (disch:=(first | omega | (simp only [List.length_set]; omega))) only [hfr0,Ac,Ds,Hf,Kk,amL,amT,sA,sB,sE,sF,sH,↓reduceIte,reduceCtorEq]
  refine hK3 _ ?_
  refine Ad fun K4 hK4=>?_
  simp (disch:=(first | omega | (simp only [List.length_set]; omega))) only [amL,amT,sA,↓reduceIte,reduceCtorEq]
  repeat' first | (refine Eo (fun h=>?_) (fun h=>?_) <;> simp (disch:=(first | omega | (simp only [List.length_set]; omega))) only [h,amL,amT,sA,sF,↓reduceIte,reduceCtorEq]) | (refine Cy (fun h=>?_) (fun h=>?_) <;> simp (disch:=(first | omega | (simp only [List.length_set]; omega))) only [h,ov,hfr0,Ac,Ds,Kw,Aby,Hf,Kk,amL,amT,sA,sB,sC,sD,sE,sF,sG,sH,sI,sJ,sK,sL,sM,sN,sO,↓reduceIte,reduceCtorEq])
  all_goals
   skip
   refine hK4 _ ?_
   refine Aj ?_
   try simp (disch:=(first | omega | (simp only [List.length_set]; omega))) only [amL]
   refine A6 (res:=bl _) (upd os nv (some (.cells (cW (v.set s.frm.toNat ⟨_,(v.getD s.frm.toNat default).e⟩)++tl)))) (by simp (disch:=(first | omega | (simp only [List.length_set]; omega))) only [amL,↓reduceIte]; try rfl) (by first | ((repeat' first | exact Sub.refl _ | refine Sub.skip (by first | exact hfr0 _ | (simp (disch:=omega) only [Ac]; exact hfr0 _)) ?_ | refine Sub.both ?_); done) | fail) (Tm hcl ov) (AV.lives_p _ _) ⟨?_,?_⟩
   all_goals (unfold Yo; simp_all)
theorem Ba7 {v:List Liq} {tl:List AV} {s:Stp} {n:Int} {nv:Nat} {os:Nat→Option AO} {bd:Nat} (hw:G1 v) (hs:0≤s.frm∧s.frm.toNat < v.length∧s.frm < 4) (ht:0≤s.to∧s.to.toNat < v.length∧s.to < 4) (hn:0≤n∧n≤1000000) (ov:os nv=some (.cells (cW v++tl))) :
    Bh Try.prog bd (.fn (.func 137) [] []) [.ptr nv 0,avS s,i64 n] os fun res os'=>res=bl (G8 v s.frm.toNat s.to.toNat n).2∧os'=upd os nv (some (.cells (cW (G8 v s.frm.toNat s.to.toNat n).1++tl))):=by
  refine B3 (v:=[]) (q:=[]) (N:=69) (rs:=[.tmp 6]) Try.func137 rfl (by kernel_rfl) rfl rfl (fun hcl hfree=>?_)
  have hfr0:∀ k,os (bd+k)=none:=fun k=>hfree _ (by omega)
  have hlt:=Ap hfree ov
  obtain ⟨⟨h1,h2⟩,h3,h4⟩:=hw s.frm.toNat
  obtain ⟨⟨k1,k2⟩,k3,k4⟩:=hw s.to.toNat
  refine Ad fun K1 hK1=>?_
  simp (disch:=(first | omega | (simp only [List.length_set]; omega))) only [hfr0,amL,sA,sB,↓reduceIte,reduceCtorEq]
  refine hK1 _ ?_
  refine Ab fun K2 hK2=>?_
  refine Ch (by kernel_rfl) (by kernel_rfl) ?_
  simp (disch:=(first | omega | (simp only [List.length_set]; omega))) only [amL,amT,sA,sF,sH,↓reduceIte,reduceCtorEq]
  refine hK2 _ ?_
  refine Ab fun K3 hK3=>?_
  refine Ad fun K4 hK4=>?_
  simp (disch:=(first | omega | (simp only [List.length_set]; omega))) only [ov,Ac,Ds,amL,amT,sA,sF,↓reduceIte,reduceCtorEq]
  refine hK4 _ ?_
  refine Al rfl (fun h=>MT.x ?_) (fun h=>ME.x ?_)
  all_goals
   first
   |refine MT.mk ?_
    first
    |exact Bool.noConfusion h
    |skip
     try simp only [nrm] at h
     refine Ad fun K5 hK5=>?_
     simp (disch:=(first | omega | (simp only [List.length_set]; omega))) only [amL,sA]
     refine hK5 _ ?_
     refine Aj ?_
     try simp (disch:=(first | omega | (simp only [List.length_set]; omega))) only [amL]
     first | (refine A6 (res:=bl _) os (by simp (disch:=(first | omega | (simp only [List.length_set]; omega))) only [amL,↓reduceIte]; try rfl) (by first | ((repeat' first | exact Sub.refl _ | refine Sub.skip (by first | exact hfr0 _ | (simp (disch:=omega) only [Ac]; exact hfr0 _)) ?_ | refine Sub.both ?_); done) | fail) hcl (AV.lives_p _ _) ⟨?_,?_⟩ ; all_goals first | (rw [G8,if_pos h]; done) | (rw [G8,if_pos h,Zp ov]; done) | (rw [G8,if_neg (by assumption),if_neg h]; done) | (rw [G8,if_neg (by assumption),if_neg h,Zp ov]; done)) | (refine A6 (res:=bl _) (upd os nv (some (.cells (cW (Ml v s.frm.toNat s.to.toNat n)++tl)))) (by simp (disch:=(first | omega | (simp only [List.length_set]; omega))) only [ov,hfr0,Ac,Ds,Kw,Aby,Apj,Hf,Kk,List.set_set,Bz,amL,amT,sA,sB,sC,sD,sE,sF,sG,sH,sI,sJ,sK,sL,sM,sN,sO,↓reduceIte,reduceCtorEq]; try rfl) (by first | ((repeat' first | exact Sub.refl _ | refine Sub.skip (by first | exact hfr0 _ | (simp (disch:=omega) only [Ac]; exact hfr0 _)) ?_ | refine Sub.both ?_); done) | fail) (Tm hcl ov) (AV.lives_p _ _) ⟨?_,?_⟩ ; all_goals (rw [G8,if_neg (by assumption),if_pos h])) | trace_state
   |refine ME.mk ?_
    first
    |exact Bool.noConfusion h
    |skip
     try simp only [nrm] at h
     refine Am ?_
     refine hK3 _ ?_
  all_goals
   skip
   refine Ab fun K6 hK6=>?_
   refine Ad fun K7 hK7=>?_
   simp (disch:=(first | omega | (simp only [List.length_set]; omega))) only [amL,amT,sA,sF,↓reduceIte,reduceCtorEq]
   refine hK7 _ ?_
   refine Al rfl (fun h=>MT.x ?_) (fun h=>ME.x ?_)
   all_goals
    first
    |refine MT.mk ?_
     first
     |exact Bool.noConfusion h
     |skip
      try simp only [nrm] at h
      refine Ab fun K8 hK8=>?_
      refine Ch (by kernel_rfl) (by kernel_rfl) ?_
      have hg:0 < (v.getD s.frm.toNat default).g:=by omega
      have hb:=Ae6 (n:=n) hn.1 hn.2 h3 h4 hg
      have hm:IntKind.i64.wrap (n * (v.getD s.frm.toNat default).e)=n * (v.getD s.frm.toNat default).e:=Fc (by omega) (by omega)
      have htd:(n * (v.getD s.frm.toNat default).e).tdiv (v.getD s.frm.toNat default).g=G4 v s.frm.toNat n:=Int.tdiv_eq_ediv_of_nonneg hb.1.1
      have hx:=Vv (n:=n) hn.1 (show n≤(v.getD s.frm.toNat default).g by omega) h3 hg
      have hx1:0≤G4 v s.frm.toNat n:=hx.1
      have hx2:G4 v s.frm.toNat n≤(v.getD s.frm.toNat default).e:=hx.2
      obtain ⟨⟨q1,q2⟩,q3,q4⟩:=Aji (k:=s.frm.toNat) (a:=⟨(v.getD s.frm.toNat default).g - n,(v.getD s.frm.toNat default).e - G4 v s.frm.toNat n⟩) hw ⟨⟨show 0≤(v.getD s.frm.toNat default).g - n by omega,show (v.getD s.frm.toNat default).g - n≤1000000 by omega⟩,show 0≤(v.getD s.frm.toNat default).e - G4 v s.frm.toNat n by omega,show (v.getD s.frm.toNat default).e - G4 v s.frm.toNat n≤1000000000 by omega⟩ s.to.toNat
      simp (disch:=(first | omega | (simp only [List.length_set]; omega))) only [hm,htd,ov,Ac,Ds,Kw,amL,amT,sA,sF,↓reduceIte,reduceCtorEq]
      refine hK8 _ ?_
      refine Ab fun K9 hK9=>?_
      refine Ch (by kernel_rfl) (by kernel_rfl) ?_
      simp (disch:=(first | omega | (simp only [List.length_set]; omega))) only [ov,Ac,Ds,Kw,Aby,Apj,Hf,Kk,List.set_set,amL,amT,sA,sB,sE,sF,↓reduceIte,reduceCtorEq]
      refine hK9 _ ?_
      refine Ch (by kernel_rfl) (by kernel_rfl) ?_
      simp (disch:=(first | omega | (simp only [List.length_set]; omega))) only [Ds,Kw,Aby,Apj,Hf,Kk,List.set_set,Bz,amL,amT,sA,sB,sE,sF,↓reduceIte,reduceCtorEq]
      refine hK6 _ ?_
    |refine ME.mk ?_
     first
     |exact Bool.noConfusion h
     |skip
      try simp only [nrm] at h
      refine Am ?_
      refine hK6 _ ?_
   all_goals
    skip
    refine Ad fun K10 hK10=>?_
    simp (disch:=(first | omega | (simp only [List.length_set]; omega))) only [amL,sA]
    refine hK10 _ ?_
    refine Aj ?_
    try simp (disch:=(first | omega | (simp only [List.length_set]; omega))) only [amL]
    first | (refine A6 (res:=bl _) os (by simp (disch:=(first | omega | (simp only [List.length_set]; omega))) only [amL,↓reduceIte]; try rfl) (by first | ((repeat' first | exact Sub.refl _ | refine Sub.skip (by first | exact hfr0 _ | (simp (disch:=omega) only [Ac]; exact hfr0 _)) ?_ | refine Sub.both ?_); done) | fail) hcl (AV.lives_p _ _) ⟨?_,?_⟩ ; all_goals first | (rw [G8,if_pos h]; done) | (rw [G8,if_pos h,Zp ov]; done) | (rw [G8,if_neg (by assumption),if_neg h]; done) | (rw [G8,if_neg (by assumption),if_neg h,Zp ov]; done)) | (refine A6 (res:=bl _) (upd os nv (some (.cells (cW (Ml v s.frm.toNat s.to.toNat n)++tl)))) (by simp (disch:=(first | omega | (simp only [List.length_set]; omega))) only [amL,↓reduceIte]; try rfl) (by first | ((repeat' first | exact Sub.refl _ | refine Sub.skip (by first | exact hfr0 _ | (simp (disch:=omega) only [Ac]; exact hfr0 _)) ?_ | refine Sub.both ?_); done) | fail) (Tm hcl ov) (AV.lives_p _ _) ⟨?_,?_⟩ ; all_goals (rw [G8,if_neg (by assumption),if_pos h])) | trace_state
theorem Azo:Ks Try.prog 256 14:=Apz (by kernel_rfl)
def Ap1:Value:=.agg #[.int .i64 0,.int .i64 0,.int .i64 0,.int .i64 0,.int .i64 0,.int .i64 0,.int .i64 0,.int .i64 0,.bool false]
theorem Axn:∀ w,(zeroValue 258).run Try.prog w=.ok Ap1 w:=fun w=>by
  have h:(Try.prog.info? 258).map (fun i=>i.zero)=some (some Ap1):=by kernel_rfl
  cases hi:Try.prog.info? 258 with
  | none=>rw [hi] at h; cases h
  | some i=>
    rw [hi] at h
    have hz:i.zero=some Ap1:=by simpa using h
    simp [zeroValue,typeInfo,hi,hz]
theorem Vl:Bd Ap1=.agg [i64 0,i64 0,i64 0,i64 0,i64 0,i64 0,i64 0,i64 0,bl false]:=rfl
abbrev Aha:List AV:=[.fn (.func 137) [] [],.fn (.func 138) [] [],.fn (.func 139) [] []]
abbrev Ajc (k:Int):AV:=.fn (.func (if k=0 then 137 else if k=1 then 138 else 139)) [] []
theorem Am5:Bv Try.prog 89 [] (.agg Aha):=by
  refine Bo (v:=[]) (q:=[]) (N:=5) (rs:=[.cell 0 205]) Try.func89 rfl rfl rfl rfl rfl ?_
  refine Ad fun K1 hK1=>?_
  simp (disch:=omega) only [amL,amT,sA,sB,↓reduceIte]
  refine hK1 _ ?_
  refine Ad fun K2 hK2=>?_
  simp (disch:=omega) only [amL,amT,sA,sB,sE,sF,↓reduceIte,reduceCtorEq]
  refine hK2 _ ?_
  refine Aj ?_
  try simp (disch:=omega) only [Ak8,amL,amT,sB,↓reduceIte,reduceCtorEq]
  skip
theorem Ye {esz:Nat→Nat} {ea:Nat→Option Bool} {k:Int} (hz:esz 204=1) (he:ea 204=some true) (h0:0≤k) (h3:k≤2):Ae0 esz ea (.agg Aha) (.arr 3 204) (i64 k)=some (.pure (.agg [Ajc k])):=by
  have hk4:k=0∨k=1∨k=2:=by omega
  simp only [Ae0,he,hz]
  rcases hk4 with rfl | rfl | rfl <;> rfl
theorem Bd8 {v:List Liq} {tl:List AV} {s:Stp} {n:Int} {nv:Nat} {os:Nat→Option AO} {bd:Nat} (_:0≤s.kind∧s.kind≤2) (hw:G1 v) (hs:0≤s.frm∧s.frm.toNat < v.length∧s.frm < 4) (ht:0≤s.to∧s.to.toNat < v.length∧s.to < 4) (hn:0≤n∧n≤1000000) (ov:os nv=some (.cells (cW v++tl))) :
    Bh Try.prog bd (Ajc s.kind) [.ptr nv 0,avS s,i64 n] os fun res os'=>res=bl (Gx v s n).2∧os'=upd os nv (some (.cells (cW (Gx v s n).1++tl))):=by
  unfold Ajc Gx
  split
  · exact Ba7 hw hs ht hn ov
  · split
    · exact Asn hw ht hn ov
    · exact Az7 hw hs hn ov
structure Wk (vs:List Ves) (ss:List Stp) (nw m:Nat) (os:Nat→Option AO):Prop where
  ow:os nw=some (.cells [.p (slV vs),.p (slS ss),.mp m])
  om:os m=some (.obj (F9 14 (Sx vs)))
theorem Eb (v:List Liq) (b:Bool):(AV.tup [avW v,bl b]).isP=true:=by
  have h:AV.isP.isPL (cW v)=true:=(Je _).2 fun i x hx=>Pz hx
  simp only [AV.isP,AV.isP.isPL,h,Bool.and_self]
theorem H9 {P:Program} {s:St} {i j n off:Nat} {ty:TypeId} {g:Bool} {cs:List AV} {x:AV} (h1:s.t i=.ptr n off) (h2:(Aa P ty).agg=some g) (h3:s.o n=some (.cells cs)) (h4:Ai g (Aa P ty).sz (cs.drop off)=some x):(Cw P s [.cell i ty,.tmp j]).map Dg=some (.tup [x,s.t j]):=by
  simp only [Cw,F2,h1,h2,h3,h4,Option.map_some]; rfl
theorem Bgv {vs:List Ves} {ss:List Stp} {v:List Liq} {s:Stp} {n:Int} {nw m:Nat} {os:Nat→Option AO} {bd:Nat} (hW:Wk vs ss nw m os) (hv4:v.length=4) (hw:G1 v) (hvs:vs.length≤4) (hk:0≤s.kind∧s.kind≤2) (hs:0≤s.frm∧s.frm < vs.length) (ht:0≤s.to∧s.to < vs.length) (hn:0≤n∧n≤1000000) (hkd:(kD s n v).all inR=true) :
    Bh Try.prog bd (.fn (.func 99) [] []) [.ptr nw 0,avW v,avS s,i64 n] os fun res os'=>res=.tup [avW (doS vs v s n).1,bl (doS vs v s n).2]∧os'=os:=by
  refine B3 (v:=[]) (q:=[]) (N:=69) (rs:=[.cell 8 166,.tmp 9]) Try.func99 rfl (by kernel_rfl) rfl rfl (fun hcl hfree=>?_)
  have hfr0:∀ k,os (bd+k)=none:=fun k=>hfree _ (by omega)
  obtain ⟨ow,om⟩:=hW
  have hlw:=Ap hfree ow
  have hlm:=Ap hfree om
  have l4:(Gx v s n).1.length=4:=by rw [Zw,hv4]
  have ld:(doS vs v s n).1.length=4:=by rw [Zi,hv4]
  have hmc:Bd (Sx vs (kD s n v))=.agg (cW (doS vs v s n).1++[bl (doS vs v s n).2]):=by unfold Sx; rw [Baf,Aix]
  have hix:Ae0 (fun e=>(Aa Try.prog e).sz) (fun e=>(Aa Try.prog e).agg) (.agg Aha) (.arr 3 204) (i64 s.kind)=some (.pure (.agg [Ajc s.kind])):=Ye (by simp only [amT]) (by simp only [amT]; rfl) hk.1 hk.2
  refine Ad fun K1 hK1=>?_
  simp (disch:=(first | assumption | omega | (simp only [List.length_set]; omega))) only [hfr0,Ac,amL,amT,sA,sB,sF,↓reduceIte,reduceCtorEq]
  refine hK1 _ ?_
  refine Ad fun K2 hK2=>?_
  simp (disch:=(first | assumption | omega | (simp only [List.length_set]; omega))) only [hfr0,Ac,Ai1,At8,Br,Bz,amL,amT,sA,sB,sE,sF,↓reduceIte,reduceCtorEq]
  refine hK2 _ ?_
  refine Ab fun K3 hK3=>?_
  refine U1 (by kernel_rfl) (by kernel_rfl) ?_
  simp (disch:=(first | assumption | omega | (simp only [List.length_set]; omega))) only [ow,Ac,Ai1,Br,amL,amT,sA,sB,sF,↓reduceIte,reduceCtorEq]
  refine Afe rfl (by simp only [amT]) Axn rfl U9 Azo (by simp (disch:=omega) only [Ac]; exact om) Agd (Anz hv4) hkd ?_ ?_ <;> simp (disch:=(first | assumption | omega | (simp only [List.length_set]; omega))) only [hfr0,Ac,Ane,Avv,Vl,hmc,Bz,amL,amT,sA,sB,sF,↓reduceIte]
  all_goals
   skip
   refine hK3 _ ?_
   refine Ab fun K4 hK4=>?_
   refine Ad fun K5 hK5=>?_
   simp (disch:=(first | assumption | omega | (simp only [List.length_set]; omega))) only [amL,sA,↓reduceIte]
   refine hK5 _ ?_
   refine Al rfl (fun h=>MT.x ?_) (fun h=>ME.x ?_)
   all_goals
    first
    |refine MT.mk ?_
     first
     |exact Bool.noConfusion h
     |skip
      try simp only [] at h
      refine Ad fun K6 hK6=>?_
      simp (disch:=(first | assumption | omega | (simp only [List.length_set]; omega))) only [Ac,Ai1,Bga,Br,Bz,amL,amT,sA,sB,sE,sF,↓reduceIte,reduceCtorEq]
      refine hK6 _ ?_
      refine Ab fun K7 hK7=>?_
      refine Ch (by kernel_rfl) (by kernel_rfl) ?_
      simp (disch:=(first | assumption | omega | (simp only [List.length_set]; omega))) only [amL]
      repeat' first | (refine Eo (fun h=>?_) (fun h=>?_) <;> simp (disch:=(first | assumption | omega | (simp only [List.length_set]; omega))) only [h,ow,om,hfr0,Ac,Ai1,Ane,At8,Bb2,Bga,Avv,Aio,Bef,Atu,Ay5,Azp,Ahw,Br,Vl,hmc,Vg,hix,Di,Bz,Ds,Kw,amL,amT,sA,sB,sC,sD,sE,sF,sG,sH,sI,sJ,sK,sL,sM,sN,sO,↓reduceIte,reduceCtorEq]) | (refine Cy (fun h=>?_) (fun h=>?_) <;> simp (disch:=(first | assumption | omega | (simp only [List.length_set]; omega))) only [h,ow,Ac,Ane,Bef,Di,Bz,Ds,amL,amT,sA,sB,sF,sH,↓reduceIte,reduceCtorEq]) | (refine Ax (by kernel_rfl) rfl (Am5) (by first | exact .inl rfl | exact .inr (.inl rfl)) ?_ ; simp (disch:=(first | assumption | omega | (simp only [List.length_set]; omega))) only [Ac,Vg,hix,amL,amT,sA,sB,sF,↓reduceIte,reduceCtorEq]) | (refine A2 [(0,.ptr nw 0),(3,i64 n),(5,.ptr (bd+5) 0),(6,.ptr (bd+6) 0),(8,.ptr (bd+8) 0),(10,.ptr (bd+10) 0),(11,.ptr (bd+11) 0)] (by decide) (Bd8 (v:=v) (tl:=[bl false]) (nv:=bd+11) (bd:=bd+69) hk hw ⟨hs.1,by omega,by omega⟩ ⟨ht.1,by omega,by omega⟩ hn (by first | (simp (disch:=(first | assumption | omega | (simp only [List.length_set]; omega))) only [amL]; done) | fail)) (fun q hq=>by simp (disch:=omega) only [Ac]; exact hfree q (by omega)) (Nat.le_add_right _ _) (fun res os2 hR hcl2 hlv2=>?_) ; obtain ⟨rfl,rfl⟩:=hR ; simp (disch:=(first | assumption | omega | (simp only [List.length_set]; omega))) only [ow,Ac,Bz,amL,sA,sF,↓reduceIte,reduceCtorEq])
      all_goals
       skip
       refine hK7 _ ?_
       refine Ch (by kernel_rfl) (by kernel_rfl) ?_
       simp (disch:=(first | assumption | omega | (simp only [List.length_set]; omega))) only [ow,Ac,Ai1,Ane,Ay5,Br,amL,amT,sA,sB,sF,↓reduceIte,reduceCtorEq]
       all_goals (refine Afp (k:=256) (e:=258) (by simp only [amT]) Azo (by simp (disch:=omega) only [Ac]; exact om) Agd (Anz hv4) hkd U9 (by rw [hmc]; first | (simp_all [doS]; done) | (omega)) ?_ ; simp (disch:=(first | assumption | omega | (simp only [List.length_set]; omega))) only [amL])
       all_goals
        skip
        refine hK4 _ ?_
    |refine ME.mk ?_
     first
     |exact Bool.noConfusion h
     |skip
      try simp only [] at h
      refine Am ?_
      refine hK4 _ ?_
   all_goals
    skip
    refine Ab fun K8 hK8=>?_
    refine Ao5 [.sto [11] 8,.sto [67] 8] (by kernel_rfl) (by kernel_rfl) ?_
    simp (disch:=(first | assumption | omega | (simp only [List.length_set]; omega))) only [Ac,Ai1,Ane,Aio,Atu,Ahw,amL,amT,sA,sB,sE,sF,↓reduceIte,reduceCtorEq]
    refine ⟨by simp [Cf.ok,Vz,T,AV.known,AV.clean],?_⟩
    all_goals
     skip
     refine hK8 _ ?_
     refine Aj ?_
     try simp (disch:=(first | assumption | omega | (simp only [List.length_set]; omega))) only [amL]
     all_goals (refine A6 (res:=.tup [avW (doS vs v s n).1,bl (doS vs v s n).2]) os ?_ (by first | ((repeat' first | exact Sub.refl _ | refine Sub.skip (by first | exact hfr0 _ | (simp (disch:=omega) only [Ac]; exact hfr0 _)) ?_ | refine Sub.both ?_); done) | fail) hcl (A9 _ (Eb _ _)) ⟨rfl,rfl⟩ ; refine (H9 (n:=bd+8) (off:=0) (g:=true) (cs:=cW (doS vs v s n).1) (x:=avW (doS vs v s n).1) (by simp (disch:=(first | assumption | omega | (simp only [List.length_set]; omega))) only [amL,sF,↓reduceIte,reduceCtorEq]) (by simp only [amT]; rfl) (by simp (disch:=(first | assumption | omega | (simp only [List.length_set]; omega))) only [amL]; try rfl) (by simp only [amT,List.drop_zero]; exact Aae ld)).trans ?_ ; simp (disch:=(first | assumption | omega | (simp only [List.length_set]; omega))) only [amL,↓reduceIte] ; all_goals first | rfl | (simp_all [doS]; done) | (omega))
theorem F7 {os:Nat→Option AO} {n:Nat} {cs:List AV} (hcl:(Hp os).closed) (h:∀ x ∈ cs,x.isP=true):(Hp (upd os n (some (.cells cs)))).closed:=
  Cr hcl (AO.lives_cells.2 fun _ x hx=>A9 _ (h x (List.mem_of_getElem? hx)))
theorem Ec {os:Nat→Option AO} {n:Nat} {v:List Liq} (hcl:(Hp os).closed):(Hp (upd os n (some (.cells (cW v))))).closed:=F7 hcl fun x hx=>by
  obtain ⟨i,hi⟩:=List.mem_iff_getElem?.1 hx
  exact Pz hi
theorem Yu {vs:List Ves} {k:Nat} (h:k < vs.length):vs.drop k=vs.getD k default :: vs.drop (k+1):=Adi default h
theorem Wg {vs:List Ves} {gs ds:List Int} {k:Nat} {v:List Liq} {R:List Liq × Bool} (h:k < vs.length) (h2:(vs.getD k default).room < gs.getD k 0) (hr:Gg (vs.drop k) gs ds k v=R):R=(v,false):=by
  rw [Yu h] at hr; unfold Gg at hr; rw [if_pos h2] at hr; exact hr.symm
theorem Aeh {vs:List Ves} {gs ds:List Int} {k:Nat} {v:List Liq} {R:List Liq × Bool} (h:k < vs.length) (h2:¬ (vs.getD k default).room < gs.getD k 0) (hr:Gg (vs.drop k) gs ds k v=R):Gg (vs.drop (k+1)) gs ds (k+1) (v.set k ⟨gs.getD k 0,gs.getD k 0 * ds.getD k 0⟩)=R:=by
  rw [Yu h] at hr; unfold Gg at hr; rw [if_neg h2] at hr; exact hr
theorem Xy {vs:List Ves} {gs ds:List Int} {k:Nat} {v:List Liq} {R:List Liq × Bool} (h:vs.length≤k) (hr:Gg (vs.drop k) gs ds k v=R):R=(v,true):=by
  rw [List.drop_of_length_le h] at hr; exact hr.symm
theorem Arx {a b:Int} (h1:0≤a∧a≤100000) (h2:0≤b∧b≤100000):0≤a * b∧a * b≤10000000000:=by
  have e1:=Int.mul_nonneg h1.1 h2.1
  have e2:=Int.mul_le_mul h1.2 h2.2 h2.1 (by omega)
  omega
theorem Dp {b:Ed} {os:Nat→Option AO} {bd:Nat} :
    Bh Try.prog bd (.fn (.func 61) [] []) [avB b] os fun res os'=>res=.ptr (bd+6) 0∧os'=upd (upd os (bd+4) (some (.obj (F9 14 (Sx b.vs))))) (bd+6) (some (.cells [.p (slV b.vs),.p (slS b.ss),.mp (bd+4)])):=by
  refine B3 (v:=[]) (q:=[]) (N:=7) (rs:=[.tmp 2]) Try.func61 rfl (by kernel_rfl) rfl rfl (fun hcl hfree=>?_)
  have hfr0:∀ k,os (bd+k)=none:=fun k=>hfree _ (by omega)
  refine Ad fun K1 hK1=>?_
  simp (disch:=omega) only [hfr0,amL,sA,↓reduceIte]
  refine hK1 _ ?_
  refine Ad fun K2 hK2=>?_
  simp (disch:=omega) only [amL,amT,sA,sB,sF,↓reduceIte]
  refine Aek 14 (Sx b.vs) (by decide) (by simp (disch:=omega) only [hfr0,Ac]) ?_
  simp (disch:=omega) only [hfr0,Ac,amL,amT,sA,sB,sE,sF,↓reduceIte]
  all_goals
   skip
   refine hK2 _ ?_
   refine Aj ?_
   try simp (disch:=omega) only [amL]
   refine A6 (res:=.ptr (bd+6) 0) (upd (upd os (bd+4) (some (.obj (F9 14 (Sx b.vs))))) (bd+6) (some (.cells [.p (slV b.vs),.p (slS b.ss),.mp (bd+4)]))) rfl (by first | ((repeat' first | exact Sub.refl _ | refine Sub.skip (by first | exact hfr0 _ | (simp (disch:=omega) only [Ac]; exact hfr0 _)) ?_ | refine Sub.both ?_); done) | fail) (Cr (Cr hcl (AO.lives_obj _ _)) ?_) ?_ ⟨rfl,rfl⟩
   · rw [Dt]; simp (disch:=omega) only [Cs,Cm,V5,Sm,Ac,Bc,Option.isSome_some,and_self]
   · rw [C6]; simp only [Bc,Option.isSome_some]
theorem Ag0 {vs:List Ves} {ss:List Stp} {gs ds:List Int} {nw m:Nat} {os:Nat→Option AO} {bd:Nat} (hW:Wk vs ss nw m os) (hvs:vs.length≤4) (hg1:gs.length=vs.length) (hd1:ds.length=vs.length) (hg:∀ k,0≤gs.getD k 0∧gs.getD k 0≤100000) (hd:∀ k,0≤ds.getD k 0∧ds.getD k 0≤100000) :
    Bh Try.prog bd (.fn (.func 116) [] []) [.ptr nw 0,isl gs,isl ds] os fun res os'=>res=.tup [avW (Na vs gs ds).1,bl (Na vs gs ds).2]∧os'=os:=by
  refine B3 (v:=[]) (q:=[]) (N:=47) (rs:=[.cell 6 166,.tmp 7]) Try.func116 rfl (by kernel_rfl) rfl rfl (fun hcl hfree=>?_)
  have hfr0:∀ k,os (bd+k)=none:=fun k=>hfree _ (by omega)
  obtain ⟨ow,om⟩:=hW
  have hlw:=Ap hfree ow
  refine Ad fun K1 hK1=>?_
  simp (disch:=(first | assumption | omega | (simp only [List.length_set]; omega))) only [hfr0,amL,amT,sA,sB,↓reduceIte]
  refine hK1 _ ?_
  refine Ab fun K2 hK2=>?_
  refine Ad fun K3 hK3=>?_
  simp (disch:=(first | assumption | omega | (simp only [List.length_set]; omega))) only [ow,Ac,amL,amT,sA,↓reduceIte,reduceCtorEq]
  refine hK3 _ ?_
  refine Ar ?_
  skip
  refine Bg (α:=Nat × List Liq) (fun x=>⟨T [(0,.ptr nw 0),(1,isl gs),(2,isl ds),(6,.ptr (bd+6) 0),(14,.p (slV vs)),(15,i64 vs.length),(16,i64 (x.1:Int))],upd os (bd+6) (some (.cells (cW x.2)))⟩) (fun x=>vs.length - x.1) (fun x=>x.1≤vs.length∧x.2.length=4∧Gg (vs.drop x.1) gs ds x.1 x.2=Na vs gs ds) (0,v0) ?_ ?_ (fun x hx4 K4 hK4=>?_)
  · exact ⟨by simp,rfl,rfl⟩
  · refine Hd ?_ ?_ ?_ ?_ <;> (try simp (disch:=(first | assumption | omega | (simp only [List.length_set]; omega))) only [ow,Ac,amL,sF,↓reduceIte,reduceCtorEq]); all_goals first | rfl | exact Ec hcl | exact (by first | ((repeat' first | exact Sub.refl _ | refine Sub.skip (by first | exact hfr0 _ | (simp (disch:=omega) only [Ac]; exact hfr0 _)) ?_ | refine Sub.both ?_); done) | fail) | trace_state
  obtain ⟨k,v⟩:=x; dsimp only at hx4 ⊢; obtain ⟨hk,hv4,hr⟩:=hx4; have hgk:=hg k; have hdk:=hd k; have hmu:=Arx hgk hdk
  refine Ad fun K5 hK5=>?_
  simp (disch:=(first | assumption | omega | (simp only [List.length_set]; omega))) only [amL,amT,sA,sF,↓reduceIte,reduceCtorEq]
  refine hK5 _ ?_
  refine Ab fun K6 hK6=>?_
  refine Al rfl (fun h=>MT.x ?_) (fun h=>ME.x ?_)
  all_goals
   first
   |refine MT.mk ?_
    first
    |exact Bool.noConfusion h
    |skip
     try simp only [nrm] at h
     refine Am ?_
     refine hK6 _ ?_
   |refine ME.mk ?_
    first
    |exact Bool.noConfusion h
    |skip
     try simp only [nrm] at h
     refine Bq ?_
     refine hK2 _ ?_
     refine Ad fun K7 hK7=>?_
     simp (disch:=(first | assumption | omega | (simp only [List.length_set]; omega))) only [Bz,Br,A0,B7,amL,amT,sA,sF,↓reduceIte,reduceCtorEq]
     refine hK7 _ ?_
     refine Aj ?_
     try simp (disch:=(first | assumption | omega | (simp only [List.length_set]; omega))) only [amL]
     all_goals ((first | (have e:=Wg (by omega) (by assumption) hr) | (have e:=Xy (by omega) hr)) ; rw [e] ; refine A6 (res:=.tup [avW v,bl _]) os ?_ (by first | ((repeat' first | exact Sub.refl _ | refine Sub.skip (by first | exact hfr0 _ | (simp (disch:=omega) only [Ac]; exact hfr0 _)) ?_ | refine Sub.both ?_); done) | fail) hcl (A9 _ (Eb _ _)) ⟨rfl,rfl⟩ ; refine (H9 (n:=bd+6) (off:=0) (g:=true) (cs:=cW v) (x:=avW v) (by simp (disch:=(first | assumption | omega | (simp only [List.length_set]; omega))) only [amL,sF,↓reduceIte,reduceCtorEq]) (by simp only [amT]; rfl) (by simp (disch:=(first | assumption | omega | (simp only [List.length_set]; omega))) only [amL]; try rfl) (by simp only [amT,List.drop_zero]; exact Aae hv4)).trans ?_ ; simp (disch:=(first | assumption | omega | (simp only [List.length_set]; omega))) only [amL,↓reduceIte] ; all_goals first | rfl | (omega))
  all_goals
   skip
   refine Ab fun K8 hK8=>?_
   refine Ar ?_
   refine Ad fun K9 hK9=>?_
   simp (disch:=(first | assumption | omega | (simp only [List.length_set]; omega))) only [hfr0,Ac,Bz,Di,amL,amT,sA,sB,sF,↓reduceIte,reduceCtorEq]
   refine hK9 _ ?_
   refine Ab fun K10 hK10=>?_
   refine Ab fun K11 hK11=>?_
   refine Ch (by kernel_rfl) (by kernel_rfl) ?_
   simp (disch:=(first | assumption | omega | (simp only [List.length_set]; omega))) only [amL,amT,sA,sF,↓reduceIte,reduceCtorEq]
   refine hK11 _ ?_
   refine Al rfl (fun h=>MT.x ?_) (fun h=>ME.x ?_)
   all_goals
    first
    |refine MT.mk ?_
     first
     |exact Bool.noConfusion h
     |skip
      try simp only [nrm] at h
      refine Ad fun K12 hK12=>?_
      simp (disch:=(first | assumption | omega | (simp only [List.length_set]; omega))) only [Ac,Br,A0,B7,amL,amT,sA,sF,↓reduceIte,reduceCtorEq]
      refine hK12 _ ?_
      refine Aj ?_
      try simp (disch:=(first | assumption | omega | (simp only [List.length_set]; omega))) only [amL]
      all_goals ((first | (have e:=Wg (by omega) (by assumption) hr) | (have e:=Xy (by omega) hr)) ; rw [e] ; refine A6 (res:=.tup [avW v,bl _]) os ?_ (by first | ((repeat' first | exact Sub.refl _ | refine Sub.skip (by first | exact hfr0 _ | (simp (disch:=omega) only [Ac]; exact hfr0 _)) ?_ | refine Sub.both ?_); done) | fail) hcl (A9 _ (Eb _ _)) ⟨rfl,rfl⟩ ; refine (H9 (n:=bd+6) (off:=0) (g:=true) (cs:=cW v) (x:=avW v) (by simp (disch:=(first | assumption | omega | (simp only [List.length_set]; omega))) only [amL,sF,↓reduceIte,reduceCtorEq]) (by simp only [amT]; rfl) (by simp (disch:=(first | assumption | omega | (simp only [List.length_set]; omega))) only [amL]; try rfl) (by simp only [amT,List.drop_zero]; exact Aae hv4)).trans ?_ ; simp (disch:=(first | assumption | omega | (simp only [List.length_set]; omega))) only [amL,↓reduceIte] ; all_goals first | rfl | (omega))
    |refine ME.mk ?_
     first
     |exact Bool.noConfusion h
     |skip
      try simp only [nrm] at h
      refine Am ?_
      refine hK10 _ ?_
   all_goals
    skip
    refine Ch (by kernel_rfl) (by kernel_rfl) ?_
    simp (disch:=(first | assumption | omega | (simp only [List.length_set]; omega))) only [Ac,Bd6,Bd7,List.set_set,Kk,A0,amL,amT,sA,sB,sE,sF,sH,↓reduceIte,reduceCtorEq]
    refine hK8 _ ?_
    refine Ah ?_
    simp (disch:=(first | assumption | omega | (simp only [List.length_set]; omega))) only [amL,amT,sA,sF,↓reduceIte,reduceCtorEq]
    refine hK4 (k+1,v.set k ⟨gs.getD k 0,gs.getD k 0 * ds.getD k 0⟩) _ ?_ ?_ (Hd ?_ ?_ ?_ ?_)
    all_goals (try simp (disch:=(first | assumption | omega | (simp only [List.length_set]; omega))) only [ow,Ac,amL,sF,↓reduceIte,reduceCtorEq])
    all_goals first | omega | exact ⟨by omega,by simp [hv4],Aeh (by omega) (by omega) hr⟩ | exact (by first | ((repeat' first | exact Sub.refl _ | refine Sub.skip (by first | exact hfr0 _ | (simp (disch:=omega) only [Ac]; exact hfr0 _)) ?_ | refine Sub.both ?_); done) | fail) | exact Ec hcl | trace_state
theorem Bdc {b:Ed} {s:Stp} {n:Int} {v:List Liq} (hs:F4 b.vs.length s=true) (hb:b.vs.length≤4) (hn:0≤n∧n≤60) (hv:OkV v):(kD s n v).all inR=true:=by
  obtain ⟨h1,h2,h3,_,h5⟩:=Fq hs
  have h6:=C9 h5
  refine Bfn ⟨?_,?_,?_,?_,?_⟩ ?_ hv.small <;> (simp only [inR,Bool.and_eq_true,decide_eq_true_eq]; omega)
theorem Ahb {os:Nat→Option AO} {n1 n2 n3:Nat} {t:Tru} {v w:List Liq} (hcl:(Hp os).closed):(Hp (upd (upd (upd os n1 (some (.cells (cT t)))) n2 (some (.cells (cW v)))) n3 (some (.cells (cW w))))).closed:=
  Ec (Ec (F7 hcl fun x hx=>by simp at hx; rcases hx with rfl | rfl | rfl <;> rfl))
theorem Ek {b:Ed} {t:Tru} {nw m:Nat} {os:Nat→Option AO} {bd:Nat} (hW:Wk b.vs b.ss nw m os) (hv:Pb b) (ht:F0 b t=true) :
    Bh Try.prog bd (.fn (.func 62) [] []) [.ptr nw 0,avT t] os fun res os'=>res=.tup [avW (Me b t).1,bl (Me b t).2]∧os'=os:=by
  refine B3 (v:=[116,99]) (q:=[]) (N:=48) (rs:=[.cell 4 166,.tmp 5]) Try.func62 rfl (by kernel_rfl) rfl rfl (fun hcl hfree=>?_)
  have hfr0:∀ k,os (bd+k)=none:=fun k=>hfree _ (by omega)
  have hlw:=Ap hfree hW.ow
  have hlm:=Ap hfree hW.om
  have ow:=hW.ow
  have om:=hW.om
  obtain ⟨s1,s2,s3⟩:=Lr hv ht
  obtain ⟨p1,p2,p3,p4,p5⟩:=Dm ht
  have hb0:=Yh hv ht
  have hnv:=hv.nv
  have hns:=hv.ns
  have bl4:=hb0.len
  refine Ad fun K1 hK1=>?_
  simp (disch:=(first | assumption | omega | (simp only [List.length_set]; omega))) only [hfr0,Ac,amL,amT,sA,sB,↓reduceIte,reduceCtorEq]
  refine hK1 _ ?_
  refine Ad fun K2 hK2=>?_
  simp (disch:=(first | assumption | omega | (simp only [List.length_set]; omega))) only [Ac,amL,amT,sA,sF,sG,↓reduceIte,reduceCtorEq]
  repeat' first | (refine Cc (bd:=bd+48) (by decide) (Ag0 (ss:=b.ss) (m:=m) ⟨by simp (disch:=omega) only [Ac]; exact ow,by simp (disch:=omega) only [Ac]; exact om⟩ hnv p1 p2 (fun k=>by have:=s1 k; omega) (fun k=>by have:=s2 k; omega)) (fun q hq=>by simp (disch:=omega) only [Ac]; exact hfree q (by omega)) (Nat.le_add_right _ _) (Eb _ _) ?_ ; simp (disch:=(first | assumption | omega | (simp only [List.length_set]; omega))) only [hfr0,Ac,Bz,Aio,A0,amL,amT,sA,sB,sF,↓reduceIte])
  refine hK2 _ ?_
  refine Ab fun K3 hK3=>?_
  refine Ad fun K4 hK4=>?_
  simp (disch:=(first | assumption | omega | (simp only [List.length_set]; omega))) only [ow,Ac,amL,amT,sA,↓reduceIte,reduceCtorEq]
  refine hK4 _ ?_
  refine Ar ?_
  skip
  refine Bg (α:=Nat × (List Liq × Bool)) (fun x=>⟨T [(0,.ptr nw 0),(3,.ptr (bd+3) 0),(4,.ptr (bd+4) 0),(6,.ptr (bd+6) 0),(7,bl x.2.2),(23,.p (slS b.ss)),(24,i64 b.ss.length),(25,i64 (x.1:Int))],upd (upd (upd os (bd+3) (some (.cells (cT t)))) (bd+4) (some (.cells (cW v0)))) (bd+6) (some (.cells (cW x.2.1)))⟩) (fun x=>b.ss.length - x.1) (fun x=>x.1≤b.ss.length∧x.2.1.length=4∧(x.2.2=true→OkV x.2.1)∧J5 b.vs t.m (b.ss.drop x.1) x.1 x.2=Me b t) (0,Na b.vs t.g t.d) ?_ ?_ (fun x hx5 K5 hK5=>?_)
  · exact ⟨by simp,bl4,fun _=>hb0,rfl⟩
  · refine Hd ?_ ?_ ?_ ?_ <;> (try simp (disch:=(first | assumption | omega | (simp only [List.length_set]; omega))) only [ow,Ac,amL,sF,↓reduceIte,reduceCtorEq]); all_goals first | rfl | exact (by first | ((repeat' first | exact Sub.refl _ | refine Sub.skip (by first | exact hfr0 _ | (simp (disch:=omega) only [Ac]; exact hfr0 _)) ?_ | refine Sub.both ?_); done) | fail) | exact Ahb hcl | (omega)
  obtain ⟨k,v,is⟩:=x; dsimp only at hx5 ⊢; obtain ⟨hk,hr4,ho,hr⟩:=hx5
  refine Ad fun K6 hK6=>?_
  simp (disch:=(first | assumption | omega | (simp only [List.length_set]; omega))) only [amL,amT,sA,sF,↓reduceIte,reduceCtorEq]
  refine hK6 _ ?_
  refine Ab fun K7 hK7=>?_
  refine Al rfl (fun h=>MT.x ?_) (fun h=>ME.x ?_)
  all_goals
   first
   |refine MT.mk ?_
    first
    |exact Bool.noConfusion h
    |skip
     try simp only [nrm] at h
     refine Am ?_
     refine hK7 _ ?_
   |refine ME.mk ?_
    first
    |exact Bool.noConfusion h
    |skip
     try simp only [nrm] at h
     refine Bq ?_
     refine hK3 _ ?_
     refine Ad fun K8 hK8=>?_
     simp (disch:=(first | assumption | omega | (simp only [List.length_set]; omega))) only [Ac,Br,A0,B7,amL,amT,sA,sB,sC,sF,↓reduceIte,reduceCtorEq]
     refine hK8 _ ?_
     refine Aj ?_
     try simp (disch:=(first | assumption | omega | (simp only [List.length_set]; omega))) only [amL]
     all_goals ((first | (have e:=V0 (by omega) (by assumption) hr) | (have e:=Zf (by omega) hr)) ; rw [e] ; refine A6 (res:=.tup [avW v,bl _]) os ?_ (by first | ((repeat' first | exact Sub.refl _ | refine Sub.skip (by first | exact hfr0 _ | (simp (disch:=omega) only [Ac]; exact hfr0 _)) ?_ | refine Sub.both ?_); done) | fail) hcl (A9 _ (Eb _ _)) ⟨rfl,rfl⟩ ; refine (H9 (n:=bd+4) (off:=0) (g:=true) (cs:=cW v) (x:=avW v) (by simp (disch:=(first | assumption | omega | (simp only [List.length_set]; omega))) only [amL,sF,↓reduceIte,reduceCtorEq]) (by simp only [amT]; rfl) (by simp (disch:=(first | assumption | omega | (simp only [List.length_set]; omega))) only [amL]; try rfl) (by simp only [amT,List.drop_zero]; exact Aae hr4)).trans ?_ ; simp (disch:=(first | assumption | omega | (simp only [List.length_set]; omega))) only [amL,↓reduceIte] ; all_goals first | rfl | (omega))
  all_goals
   skip
   refine Ab fun K9 hK9=>?_
   refine Ar ?_
   refine Ad fun K10 hK10=>?_
   simp (disch:=(first | assumption | omega | (simp only [List.length_set]; omega))) only [hfr0,Ac,Bz,X9,amL,amT,sA,sB,sF,↓reduceIte,reduceCtorEq]
   refine hK10 _ ?_
   refine Ab fun K11 hK11=>?_
   refine Ad fun K12 hK12=>?_
   simp (disch:=(first | assumption | omega | (simp only [List.length_set]; omega))) only [amL,sA,sF,↓reduceIte,reduceCtorEq]
   refine hK12 _ ?_
   refine Al rfl (fun h=>MT.x ?_) (fun h=>ME.x ?_)
   all_goals
    first
    |refine MT.mk ?_
     first
     |exact Bool.noConfusion h
     |skip
      try simp only [nrm] at h
      refine Ad fun K13 hK13=>?_
      simp (disch:=(first | assumption | omega | (simp only [List.length_set]; omega))) only [Ac,Br,A0,B7,amL,amT,sA,sB,sC,sF,↓reduceIte,reduceCtorEq]
      refine hK13 _ ?_
      refine Aj ?_
      try simp (disch:=(first | assumption | omega | (simp only [List.length_set]; omega))) only [amL]
      all_goals ((first | (have e:=V0 (by omega) (by assumption) hr) | (have e:=Zf (by omega) hr)) ; rw [e] ; refine A6 (res:=.tup [avW v,bl _]) os ?_ (by first | ((repeat' first | exact Sub.refl _ | refine Sub.skip (by first | exact hfr0 _ | (simp (disch:=omega) only [Ac]; exact hfr0 _)) ?_ | refine Sub.both ?_); done) | fail) hcl (A9 _ (Eb _ _)) ⟨rfl,rfl⟩ ; refine (H9 (n:=bd+4) (off:=0) (g:=true) (cs:=cW v) (x:=avW v) (by simp (disch:=(first | assumption | omega | (simp only [List.length_set]; omega))) only [amL,sF,↓reduceIte,reduceCtorEq]) (by simp only [amT]; rfl) (by simp (disch:=(first | assumption | omega | (simp only [List.length_set]; omega))) only [amL]; try rfl) (by simp only [amT,List.drop_zero]; exact Aae hr4)).trans ?_ ; simp (disch:=(first | assumption | omega | (simp only [List.length_set]; omega))) only [amL,↓reduceIte] ; all_goals first | rfl | (omega))
    |refine ME.mk ?_
     first
     |exact Bool.noConfusion h
     |skip
      try simp only [nrm] at h
      refine Am ?_
      refine hK11 _ ?_
   all_goals
    skip
    refine U1 (by kernel_rfl) (by kernel_rfl) ?_
    have his:is=true:=by assumption
    have hov:=ho his
    have hst:=hv.stp (k:=k) (by omega)
    obtain ⟨q1,q2,q3,_⟩:=Fq hst
    have hmk:=s3 k
    have hd4:(doS b.vs v (b.ss.getD k default) (t.m.getD k 0)).1.length=4:=by rw [Zi]; exact hr4
    simp (disch:=(first | assumption | omega | (simp only [List.length_set]; omega))) only [Ac,Bm,Br,A0,amL,amT,sA,sB,sF,sG,↓reduceIte,reduceCtorEq]
    repeat' first | (refine Cc (bd:=bd+48) (by decide) (Bgv (ss:=b.ss) (m:=m) (s:=b.ss.getD k default) ⟨by simp (disch:=omega) only [Ac]; exact ow,by simp (disch:=omega) only [Ac]; exact om⟩ hr4 hov.small hnv q1 ⟨q2.1,by omega⟩ ⟨q3.1,by omega⟩ ⟨hmk.1,by omega⟩ (Bdc hst hnv hmk hov)) (fun q hq=>by simp (disch:=omega) only [Ac]; exact hfree q (by omega)) (Nat.le_add_right _ _) (Eb _ _) ?_ ; simp (disch:=(first | assumption | omega | (simp only [List.length_set]; omega))) only [Ac,A0,B7,amL,amT,sA,sF,↓reduceIte,reduceCtorEq])
    refine hK9 _ ?_
    refine Ah ?_
    simp (disch:=(first | assumption | omega | (simp only [List.length_set]; omega))) only [amL,amT,sA,sF,↓reduceIte,reduceCtorEq]
    refine hK5 (k+1,doS b.vs v (b.ss.getD k default) (t.m.getD k 0)) _ ?_ ?_ (Hd ?_ ?_ ?_ ?_)
    all_goals (try simp (disch:=(first | assumption | omega | (simp only [List.length_set]; omega))) only [ow,Ac,amL,sF,↓reduceIte,reduceCtorEq])
    all_goals first | omega | exact ⟨by omega,by rw [Zi]; exact hr4,fun hd=>Ani hov hnv hv.v hst hmk.1 hd,Af2 (by omega) his hr⟩ | exact (by first | ((repeat' first | exact Sub.refl _ | refine Sub.skip (by first | exact hfr0 _ | (simp (disch:=omega) only [Ac]; exact hfr0 _)) ?_ | refine Sub.both ?_); done) | fail) | exact Ahb hcl | (omega)
theorem Bbo (n:Nat) (hn:n≤1000000):H3 Try.prog 115 [C4,i64 (n:Int)] 1 []:=by
  refine Kn (v:=[]) (q:=[]) (N:=27) (i:=4) Try.func115 rfl rfl rfl rfl ?_
  refine Ad fun K1 hK1=>?_
  simp (disch:=omega) only [amL,sA,sB]
  refine hK1 _ ?_
  refine Ab fun K2 hK2=>?_
  refine Ad fun K3 hK3=>?_
  simp (disch:=omega) only [amL,amT,sA,sF,↓reduceIte,reduceCtorEq]
  refine hK3 _ ?_
  refine Al rfl (fun h=>MT.x ?_) (fun h=>ME.x ?_)
  all_goals
   first
   |refine MT.mk ?_
    first
    |exact Bool.noConfusion h
    |skip
     try simp only [nrm] at h
     exfalso; omega
   |refine ME.mk ?_
    first
    |exact Bool.noConfusion h
    |skip
     try simp only [nrm] at h
     refine Am ?_
     refine hK2 _ ?_
  all_goals
   skip
   refine Ab fun K4 hK4=>?_
   refine Ab fun K5 hK5=>?_
   refine C1 ?_
   refine Js ?_
   simp (disch:=omega) only [amL,sA,sF,↓reduceIte,reduceCtorEq]
   refine Js ?_
   simp (disch:=omega) only [amL,sA,↓reduceIte,reduceCtorEq]
   refine AL.step (Re (t:=22) (e:=3) rfl (fun k hk=>by cases hk; decide) (by simp only [amT]) rfl ?_)
   refine Dd ?_
   simp (disch:=omega) only [Int.sub_zero,Int.sub_self,amL,amT,sA,sF,↓reduceIte,reduceCtorEq]
   refine hK5 _ ?_
   refine Ad fun K6 hK6=>?_
   simp (disch:=omega) only [amL,amT,sA,↓reduceIte]
   refine hK6 _ ?_
   refine Al rfl (fun h=>MT.x ?_) (fun h=>ME.x ?_)
   all_goals
    first
    |refine MT.mk ?_
     first
     |exact Bool.noConfusion h
     |skip
      try simp only [nrm] at h
      refine C1 ?_
      refine Js ?_
      simp (disch:=omega) only [amL,sA,↓reduceIte,reduceCtorEq]
      refine Js ?_
      simp (disch:=omega) only [amL,sA,↓reduceIte,reduceCtorEq]
      refine AL.step (Re (t:=22) (e:=3) rfl (fun k hk=>by cases hk; decide) (by simp only [amT]) rfl ?_)
      refine AL.step (V7 (t:=22) (e:=3) rfl (fun k hk=>by cases hk; decide) (by simp only [amT]) (by simp only [amT]; rfl) rfl rfl ?_)
      refine Js ?_
      simp (disch:=omega) only [amL,sA,sF,↓reduceIte]
      refine AL.step (Wr (t:=22) (t':=3) (e:=3) (k:=.i64) (n:=n) (dk:=22) rfl rfl (by decide) rfl (by simp only [amT]) (by simp only [amT]) (by simp only [amT]; rfl) (by simp only [amT]; rfl) (by simp only [amT]; decide) (by simp only [amT]; rfl) rfl rfl (by omega) hn (by simp only [amT]; omega) ?_)
      refine Js ?_
      simp (disch:=omega) only [amL,amT,sA,↓reduceIte,reduceCtorEq]
      refine Js ?_
      simp (disch:=omega) only [amL,amT,sA,↓reduceIte]
      refine AL.step (S7 (t:=22) (e:=3) (n:=22) (len:=n) (dk:=25) rfl rfl (by decide) (by simp only [amT]) (by simp only [amT]; rfl) rfl (by omega) rfl rfl rfl ?_)
      refine Dd ?_
      simp (disch:=omega) only [amL,sA,↓reduceIte]
      refine hK4 _ ?_
    |refine ME.mk ?_
     first
     |exact Bool.noConfusion h
     |skip
      try simp only [nrm] at h
      refine Am ?_
      refine hK4 _ ?_
   all_goals
    skip
    refine Ad fun K7 hK7=>?_
    simp (disch:=omega) only [amL,sA,↓reduceIte,reduceCtorEq]
    refine hK7 _ ?_
    refine Aj ?_
    try simp (disch:=omega) only [Ea,amL,↓reduceIte]
    all_goals rfl
abbrev Akb (t:List Int):List PV:=[.sl (t.map H8)]
theorem Yv {l:List (List Int)} {k:Nat} (h:k < l.length):(l.map Akb).getD k []=Akb (l.getD k []):=Cp _ _ _ h
theorem Zb {l:List (List Int)} {k:Nat} (h:k < l.length):(l.take (k+1)).flatten=(l.take k).flatten++l.getD k []:=by
  have e:l.take (k+1)=l.take k++[l.getD k []]:=by
    rw [List.take_add_one,List.getElem?_eq_getElem h]; simp [List.getD,h]
  rw [e,List.flatten_append]; simp
theorem Th {l:List (List Int)} (k:Nat):(l.take k).flatten.length≤l.flatten.length:=by
  have:l.flatten=(l.take k).flatten++(l.drop k).flatten:=by rw [← List.flatten_append,List.take_append_drop]
  rw [this,List.length_append]; omega
theorem Am6 (l:List Int):((l.map H8).all fun c=>decide (c.length=1))=true:=by
  rw [List.all_eq_true]; intro c hc; obtain ⟨z,-,rfl⟩:=List.mem_map.1 hc; rfl
theorem Kg {os:Nat→Option AO} {n len k:Nat} {es:List (List PV)} (h:os n=some (.arr k es)) (h1:len=es.length) (h2:(es.all fun e=>e.all PV.isVal)=true):Sf k os (.own n len)=some es:=by
  unfold Sf; simp only [h]; rw [if_pos ⟨trivial,h1,h2⟩]
theorem Aef (l:List Int):((l.map H8).all fun e=>e.all PV.isVal)=true:=by
  rw [List.all_eq_true]; intro c hc; obtain ⟨z,-,rfl⟩:=List.mem_map.1 hc; rfl
theorem Amt (ls:List (List Int)) (hl:ls.length < 1000000) (hf:ls.flatten.length≤1000000):H3 Try.prog 58 [.p (.sl (ls.map Akb))] 1 (ls.flatten.map H8):=by
  refine Kn (v:=[]) (q:=[]) (N:=36) (i:=2) Try.func58 rfl rfl rfl rfl ?_
  refine Ad fun K1 hK1=>?_
  simp (disch:=omega) only [amL,sA]
  refine hK1 _ ?_
  refine Ad fun K2 hK2=>?_
  simp (disch:=omega) only [amL,sA]
  refine hK2 _ ?_
  refine Ab fun K3 hK3=>?_
  refine Ad fun K4 hK4=>?_
  simp (disch:=omega) only [amL,amT,sA,↓reduceIte,reduceCtorEq]
  refine hK4 _ ?_
  refine Ar ?_
  skip
  refine Bg (α:=Nat) (fun k=>⟨T [(0,.p (.sl (ls.map Akb))),(3,i64 ((ls.take k).flatten.length:Int)),(9,.p (.sl (ls.map Akb))),(10,i64 ls.length),(11,i64 (k:Int))],O []⟩) (fun k=>ls.length - k) (fun k=>k≤ls.length) 0 ?_ ?_ (fun k hx5 K5 hK5=>?_)
  · simp
  · refine Df ?_ ?_ ?_ ?_ <;> (try simp (disch:=omega) only [amL,sF,↓reduceIte,reduceCtorEq]); all_goals rfl
  have hk:=hx5; have hk2:=Th (l:=ls) k; have hk3:=Th (l:=ls) (k+1)
  refine Ad fun K6 hK6=>?_
  simp (disch:=omega) only [amL,amT,sA,sF,↓reduceIte,reduceCtorEq]
  refine hK6 _ ?_
  refine Ab fun K7 hK7=>?_
  refine Al rfl (fun h=>MT.x ?_) (fun h=>ME.x ?_)
  all_goals
   first
   |refine MT.mk ?_
    first
    |exact Bool.noConfusion h
    |skip
     try simp only [nrm] at h
     refine Am ?_
     refine hK7 _ ?_
   |refine ME.mk ?_
    first
    |exact Bool.noConfusion h
    |skip
     try simp only [nrm] at h
     refine Bq ?_
     refine hK3 _ ?_
     refine Ad fun K8 hK8=>?_
     have htk:ls.take k=ls:=List.take_of_length_le (by omega)
     simp (disch:=omega) only [htk,amL,sA,sF,↓reduceIte,reduceCtorEq]
     repeat' first | (refine Ui (by kernel_rfl) (by decide) (Bbo ls.flatten.length hf) (by simp (disch:=omega) only [amL]) ?_ ; simp (disch:=omega) only [amL,sA,↓reduceIte])
     refine hK8 _ ?_
     refine Ab fun K9 hK9=>?_
     refine Ad fun K10 hK10=>?_
     simp (disch:=omega) only [amL,amT,sA,↓reduceIte,reduceCtorEq]
     refine hK10 _ ?_
     refine Ar ?_
     refine U2 24 33 rfl (by decide) (by decide) ?_
     refine Bg (α:=Nat) (fun k=>⟨T [(6,.own 33 (ls.take k).flatten.length),(25,.p (.sl (ls.map Akb))),(26,i64 ls.length),(27,i64 (k:Int))],O [(33,.arr 1 ((ls.take k).flatten.map H8))]⟩) (fun k=>ls.length - k) (fun k=>k≤ls.length) 0 ?_ ?_ (fun k hx11 K11 hK11=>?_)
     · simp
     · refine Df ?_ ?_ ?_ ?_ <;> (try simp (disch:=omega) only [W5,Aas,AV.ren,AO.ren,rn,amL,sF,↓reduceIte]); all_goals first | rfl | trace_state
     have hk:=hx11; have hk2:=Th (l:=ls) k; have hk3:=Th (l:=ls) (k+1)
     refine Ad fun K12 hK12=>?_
     simp (disch:=omega) only [amL,amT,sA,sF,↓reduceIte]
     refine hK12 _ ?_
     refine Ab fun K13 hK13=>?_
     refine Al rfl (fun h=>MT.x ?_) (fun h=>ME.x ?_)
     all_goals
      first
      |refine MT.mk ?_
       first
       |exact Bool.noConfusion h
       |skip
        try simp only [nrm] at h
        refine Am ?_
        refine hK13 _ ?_
      |refine ME.mk ?_
       first
       |exact Bool.noConfusion h
       |skip
        try simp only [nrm] at h
        refine Bq ?_
        refine hK9 _ ?_
        refine Ad fun K14 hK14=>?_
        simp (disch:=omega) only [amL,sA,sF,↓reduceIte]
        refine hK14 _ ?_
        refine Aj ?_
        try simp (disch:=omega) only [Ea,amL,↓reduceIte]
        rw [List.take_of_length_le (show ls.length≤k by omega)] ; exact Kg rfl (List.length_map _).symm (Aef _)
     all_goals
      skip
      refine Ab fun K15 hK15=>?_
      refine Ar ?_
      refine Ad fun K16 hK16=>?_
      simp (disch:=omega) only [Yv,amL,amT,sA,sF,↓reduceIte]
      refine hK16 _ ?_
      refine Ah ?_
      have hk5:=Zb (l:=ls) (k:=k) (by omega)
      have hk4:=congrArg List.length hk5
      rw [List.length_append] at hk4
      simp (disch:=omega) only [Am6,amL,amT,sA,sF,↓reduceIte]
      refine hK15 _ ?_
      refine Ah ?_
      simp (disch:=omega) only [amL,amT,sA,sF,↓reduceIte]
      refine hK11 (k+1) _ ?_ ?_ (Df ?_ ?_ ?_ ?_)
      all_goals (try simp (disch:=omega) only [amL,sF,↓reduceIte])
      all_goals first | omega | (rw [hk4]; done) | (rw [hk5,List.map_append]; done) | (rw [hk5,List.map_append]; rfl) | trace_state
  all_goals
   skip
   refine Ab fun K17 hK17=>?_
   refine Ar ?_
   refine Ad fun K18 hK18=>?_
   simp (disch:=omega) only [Yv,amL,amT,sA,sF,↓reduceIte,reduceCtorEq]
   refine hK18 _ ?_
   refine Ad fun K19 hK19=>?_
   have hk4:=congrArg List.length (Zb (l:=ls) (k:=k) (by omega))
   rw [List.length_append] at hk4
   simp (disch:=omega) only [amL,amT,sA,sF,↓reduceIte,reduceCtorEq]
   refine hK19 _ ?_
   refine Ad fun K20 hK20=>?_
   simp (disch:=omega) only [amL,amT,sA,↓reduceIte]
   refine hK20 _ ?_
   refine Al rfl (fun h=>MT.x ?_) (fun h=>ME.x ?_)
   all_goals
    first
    |refine MT.mk ?_
     first
     |exact Bool.noConfusion h
     |skip
      try simp only [nrm] at h
      exfalso; omega
    |refine ME.mk ?_
     first
     |exact Bool.noConfusion h
     |skip
      try simp only [nrm] at h
      refine Am ?_
      refine hK17 _ ?_
   all_goals
    skip
    refine Ah ?_
    simp (disch:=omega) only [amL,amT,sA,sF,↓reduceIte,reduceCtorEq]
    refine hK5 (k+1) _ ?_ ?_ (Df ?_ ?_ ?_ ?_)
    all_goals (try simp (disch:=omega) only [amL,sF,↓reduceIte,reduceCtorEq])
    all_goals first | omega | exact congrArg i64 (by omega) | trace_state
theorem Ac6 {α β:Type} {l:List α} {f:α→β} {k:Nat} (d:α) (h:k < l.length):(l.take (k+1)).map f=(l.take k).map f++[f (l.getD k d)]:=by
  rw [List.take_add_one,List.getElem?_eq_getElem h,List.map_append]
  simp [List.getD,h]
theorem Apo {α:Type} {l:List α} {p:List Rng} {f:α→Rng} {k:Nat} (d:α) (h:k < l.length):(p++(l.take k).map f).map Hy++[Hy (f (l.getD k d))]=(p++(l.take (k+1)).map f).map Hy:=by
  rw [Ac6 d h]; simp
theorem Bbu {α β:Type} {l:List α} {p:List β} {f:α→β} {k:Nat} (h:k < l.length):(p++(l.take k).map f).length+1=(p++(l.take (k+1)).map f).length:=by simp; omega
theorem Vr {α:Type} {l:List α} {k:Nat} (h1:k≤l.length) (h2:¬ (k:Int) < l.length):l.take k=l:=List.take_of_length_le (by omega)
theorem Ace (b:Ed) (hl:b.vs.length < 1000000) (hl2:b.ss.length < 1000000):Bv Try.prog 59 [avB b] (.p (.sl ((Fy b).map Hy))):=by
  refine Bo (v:=[]) (q:=[]) (N:=49) (rs:=[.tmp 2]) Try.func59 rfl rfl rfl rfl rfl ?_
  obtain ⟨p1,hp1⟩:∃ p,p=([]:List Rng):=⟨_,rfl⟩
  obtain ⟨p2,hp2⟩:∃ p,p=b.vs.map (·.g):=⟨_,rfl⟩
  obtain ⟨p3,hp3⟩:∃ p,p=b.vs.map (·.g)++b.vs.map (·.d):=⟨_,rfl⟩
  refine Ad fun K1 hK1=>?_
  simp (disch:=omega) only [amL,sA,↓reduceIte]
  refine hK1 _ ?_
  refine Ab fun K2 hK2=>?_
  refine Ad fun K3 hK3=>?_
  simp (disch:=omega) only [amL,amT,sA,sF,↓reduceIte,reduceCtorEq]
  refine hK3 _ ?_
  refine Ar ?_
  refine Pw 20 2 2 (by decide) rfl rfl ?_
  refine Bg (α:=Nat) (fun k=>⟨T [(1,.ptr 1 0),(2,.own 20 (p1++(b.vs.take k).map (·.g)).length),(10,.p (slV b.vs)),(11,i64 b.vs.length),(12,i64 (k:Int))],O [(1,.cells (cB b)),(20,.arr 2 ((p1++(b.vs.take k).map (·.g)).map Hy))]⟩) (fun k=>b.vs.length - k) (fun k=>k≤b.vs.length) 0 ?_ ?_ (fun k hx4 K4 hK4=>?_)
  · simp
  · refine Df ?_ ?_ ?_ ?_ <;> (try simp (disch:=omega) only [amL,sF,sG,↓reduceIte]); all_goals subst hp1; rfl
  have hk:=hx4; have hk2:(p1++(b.vs.take k).map (·.g)).length≤2000000:=(by subst hp1; simp; omega)
  refine Ad fun K5 hK5=>?_
  simp (disch:=omega) only [amL,amT,sA,sF,↓reduceIte]
  refine hK5 _ ?_
  refine Ab fun K6 hK6=>?_
  refine Al rfl (fun h=>MT.x ?_) (fun h=>ME.x ?_)
  all_goals
   first
   |refine MT.mk ?_
    first
    |exact Bool.noConfusion h
    |skip
     try simp only [nrm] at h
     refine Am ?_
     refine hK6 _ ?_
   |refine ME.mk ?_
    first
    |exact Bool.noConfusion h
    |skip
     try simp only [nrm] at h
     refine Bq ?_
     refine hK2 _ ?_
     refine Ab fun K7 hK7=>?_
     refine Ad fun K8 hK8=>?_
     simp (disch:=omega) only [amL,amT,sA,sF,↓reduceIte,reduceCtorEq]
     refine hK8 _ ?_
     refine Ar ?_
     refine U2 20 33 rfl (by decide) (by decide) ?_
     refine Bg (α:=Nat) (fun k=>⟨T [(1,.ptr 1 0),(2,.own 33 (p2++(b.vs.take k).map (·.d)).length),(23,.p (slV b.vs)),(24,i64 b.vs.length),(25,i64 (k:Int))],O [(1,.cells (cB b)),(33,.arr 2 ((p2++(b.vs.take k).map (·.d)).map Hy))]⟩) (fun k=>b.vs.length - k) (fun k=>k≤b.vs.length) 0 ?_ ?_ (fun k hx9 K9 hK9=>?_)
     · simp
     · refine Df ?_ ?_ ?_ ?_ <;> (try simp (disch:=omega) only [W5,Aas,AV.ren,AO.ren,rn,amL,sF,sG,↓reduceIte]); all_goals first | rfl | (rw [Vr (by assumption) (by assumption)]; subst hp1 hp2; simp)
     have hk:=hx9; have hk2:(p2++(b.vs.take k).map (·.d)).length≤3000000:=(by subst hp2; simp; omega)
     refine Ad fun K10 hK10=>?_
     simp (disch:=omega) only [amL,amT,sA,sF,↓reduceIte]
     refine hK10 _ ?_
     refine Ab fun K11 hK11=>?_
     refine Al rfl (fun h=>MT.x ?_) (fun h=>ME.x ?_)
     all_goals
      first
      |refine MT.mk ?_
       first
       |exact Bool.noConfusion h
       |skip
        try simp only [nrm] at h
        refine Am ?_
        refine hK11 _ ?_
      |refine ME.mk ?_
       first
       |exact Bool.noConfusion h
       |skip
        try simp only [nrm] at h
        refine Bq ?_
        refine hK7 _ ?_
        refine Ab fun K12 hK12=>?_
        refine Ad fun K13 hK13=>?_
        simp (disch:=omega) only [amL,amT,sA,sF,↓reduceIte,reduceCtorEq]
        refine hK13 _ ?_
        refine Ar ?_
        refine U2 33 46 rfl (by decide) (by decide) ?_
        refine Bg (α:=Nat) (fun k=>⟨T [(1,.ptr 1 0),(2,.own 46 (p3++(b.ss.take k).map (·.g)).length),(36,.p (slS b.ss)),(37,i64 b.ss.length),(38,i64 (k:Int))],O [(1,.cells (cB b)),(46,.arr 2 ((p3++(b.ss.take k).map (·.g)).map Hy))]⟩) (fun k=>b.ss.length - k) (fun k=>k≤b.ss.length) 0 ?_ ?_ (fun k hx14 K14 hK14=>?_)
        · simp
        · refine Df ?_ ?_ ?_ ?_ <;> (try simp (disch:=omega) only [W5,Aas,AV.ren,AO.ren,rn,amL,sF,sG,↓reduceIte]); all_goals first | rfl | (rw [Vr (by assumption) (by assumption)]; subst hp2 hp3; simp)
        have hk:=hx14; have hk2:(p3++(b.ss.take k).map (·.g)).length≤4000000:=(by subst hp3; simp; omega)
        refine Ad fun K15 hK15=>?_
        simp (disch:=omega) only [amL,amT,sA,sF,↓reduceIte]
        refine hK15 _ ?_
        refine Ab fun K16 hK16=>?_
        refine Al rfl (fun h=>MT.x ?_) (fun h=>ME.x ?_)
        all_goals
         first
         |refine MT.mk ?_
          first
          |exact Bool.noConfusion h
          |skip
           try simp only [nrm] at h
           refine Am ?_
           refine hK16 _ ?_
         |refine ME.mk ?_
          first
          |exact Bool.noConfusion h
          |skip
           try simp only [nrm] at h
           refine Bq ?_
           refine hK12 _ ?_
           refine Ad fun K17 hK17=>?_
           simp (disch:=omega) only [amL,sA,sF,↓reduceIte]
           refine hK17 _ ?_
           refine Aj ?_
           try simp (disch:=omega) only [amL,sF,↓reduceIte]
           rw [List.take_of_length_le (by simp),Vr hk h,hp3]; rfl
        all_goals
         skip
         refine Ab fun K18 hK18=>?_
         refine Ar ?_
         refine Ad fun K19 hK19=>?_
         simp (disch:=omega) only [X9,amL,amT,sA,sB,sF,↓reduceIte]
         refine hK19 _ ?_
         refine Ah ?_
         simp (disch:=omega) only [amL,amT,sA,sB,sC,sE,sF,↓reduceIte,reduceCtorEq]
         refine hK18 _ ?_
         refine Ah ?_
         simp (disch:=omega) only [amL,amT,sA,sF,↓reduceIte]
         refine hK14 (k+1) _ ?_ ?_ (Df ?_ ?_ ?_ ?_)
         all_goals (try simp (disch:=omega) only [amL,sF,sG,↓reduceIte])
         all_goals first | omega | exact congrArg (AV.own _) (Bbu (by omega)) | exact congrArg (AO.arr 2) (Apo default (by omega)) | trace_state
     all_goals
      skip
      refine Ab fun K20 hK20=>?_
      refine Ar ?_
      refine Ad fun K21 hK21=>?_
      simp (disch:=omega) only [Di,amL,amT,sA,sB,sF,↓reduceIte]
      refine hK21 _ ?_
      refine Ah ?_
      simp (disch:=omega) only [amL,amT,sA,sB,sC,sE,sF,↓reduceIte,reduceCtorEq]
      refine hK20 _ ?_
      refine Ah ?_
      simp (disch:=omega) only [amL,amT,sA,sF,↓reduceIte]
      refine hK9 (k+1) _ ?_ ?_ (Df ?_ ?_ ?_ ?_)
      all_goals (try simp (disch:=omega) only [amL,sF,sG,↓reduceIte])
      all_goals first | omega | exact congrArg (AV.own _) (Bbu (by omega)) | exact congrArg (AO.arr 2) (Apo default (by omega)) | trace_state
  all_goals
   skip
   refine Ab fun K22 hK22=>?_
   refine Ar ?_
   refine Ad fun K23 hK23=>?_
   simp (disch:=omega) only [Di,amL,amT,sA,sB,sF,↓reduceIte]
   refine hK23 _ ?_
   refine Ah ?_
   simp (disch:=omega) only [amL,amT,sA,sB,sC,sE,sF,↓reduceIte,reduceCtorEq]
   refine hK22 _ ?_
   refine Ah ?_
   simp (disch:=omega) only [amL,amT,sA,sF,↓reduceIte]
   refine hK4 (k+1) _ ?_ ?_ (Df ?_ ?_ ?_ ?_)
   all_goals (try simp (disch:=omega) only [amL,sF,sG,↓reduceIte])
   all_goals first | omega | exact congrArg (AV.own _) (Bbu (by omega)) | exact congrArg (AO.arr 2) (Apo default (by omega)) | trace_state
theorem elV:ElT Try.prog 46 56 avV Ae7:=Aa8 (P:=Try.prog) (tS:=46) (tE:=56) (enc:=Ae7) (n:=5) (by simp only [amT]) (by simp only [amT]; rfl) (by simp only [amT]) (fun _=>rfl)
theorem elS:ElT Try.prog 47 58 avS P7:=Aa8 (P:=Try.prog) (tS:=47) (tE:=58) (enc:=P7) (n:=5) (by simp only [amT]) (by simp only [amT]; rfl) (by simp only [amT]) (fun _=>rfl)
theorem elR:ElT Try.prog 93 53 avR Hy:=Aa8 (P:=Try.prog) (tS:=93) (tE:=53) (enc:=Hy) (n:=2) (by simp only [amT]) (by simp only [amT]; rfl) (by simp only [amT]) (fun _=>rfl)
theorem elN:ElT Try.prog 22 3 i64 H8:=Arq (P:=Try.prog) (tS:=22) (tE:=3) (f:=fun n=>iv n) (by simp only [amT]) (by simp only [amT]; rfl) (by simp only [amT])
theorem sfV:Ms Try.prog 46 56 221 3 4 181 147:=⟨⟨_,Try.func181,rfl,rfl,rfl,by kernel_rfl⟩,⟨_,Try.func147,rfl,rfl,rfl,by kernel_rfl⟩⟩
theorem afV:Ak5 Try.prog 46 56 221 4 147 148 101:=⟨⟨_,Try.func148,rfl,rfl,rfl,by kernel_rfl⟩,⟨_,Try.func101,rfl,rfl,rfl,by kernel_rfl⟩⟩
theorem sfS:Ms Try.prog 47 58 216 3 4 182 149:=⟨⟨_,Try.func182,rfl,rfl,rfl,by kernel_rfl⟩,⟨_,Try.func149,rfl,rfl,rfl,by kernel_rfl⟩⟩
theorem afS:Ak5 Try.prog 47 58 216 4 149 150 103:=⟨⟨_,Try.func150,rfl,rfl,rfl,by kernel_rfl⟩,⟨_,Try.func103,rfl,rfl,rfl,by kernel_rfl⟩⟩
theorem Bb6 (l:List Ves) (hl:l.length < 1000000) {os:Nat→Option AO} {bd:Nat}:Bh Try.prog bd (.fn (.func 101) [] []) [.p (slV l),.fn (.func 102) [] []] os fun res os'=>res=bl (l.all Eu)∧os'=os:=
  Aoq elV sfV afV (by simp only [amT]; rfl) (by kernel_rfl) rfl (fun x _=>Ale x) hl
theorem Az6 (b:Ed) (l:List Stp) (hb:b.vs.length < 1000000) (hl:l.length < 1000000) {os:Nat→Option AO} {bd:Nat}:Bh Try.prog bd (.fn (.func 103) [] []) [.p (slS l),.fn (.func 97) [avB b] []] os fun res os'=>res=bl (l.all (F4 b.vs.length))∧os'=os:=
  Aoq elS sfS afS (by simp only [amT]; rfl) (by kernel_rfl) rfl (fun x _=>Bap b x hb) hl
theorem Ajo {p s:Int} (h1:1≤p) (h2:p≤4782969) (h3:1≤s) (h4:s≤3):-9223372036854775808≤p * s∧p * s < 9223372036854775808:=by
  have e1:=Int.mul_le_mul h2 h4 (by omega) (by omega)
  have e2:=Int.mul_nonneg (show 0≤p by omega) (show 0≤s by omega)
  omega
theorem Agg (b:Ed) (hl:b.vs.length < 1000000) (hl2:b.ss.length < 1000000):Bv Try.prog 42 [avB b] (i64 (B5 b)):=by
  refine Bo (v:=[101,103]) (q:=[]) (N:=52) (rs:=[.tmp 2]) Try.func42 rfl rfl rfl rfl rfl ?_
  refine Ad fun K1 hK1=>?_
  simp (disch:=omega) only [amL,sA,↓reduceIte]
  refine hK1 _ ?_
  refine Ad fun K2 hK2=>?_
  simp (disch:=omega) only [amL,amT,sA,sB,sF,↓reduceIte]
  refine hK2 _ ?_
  refine Ab fun K3 hK3=>?_
  refine Ar ?_
  refine Ad fun K4 hK4=>?_
  simp (disch:=omega) only [amL,amT,sA,sF,↓reduceIte,reduceCtorEq]
  repeat' first | (refine Eo (fun h=>?_) (fun h=>?_) <;> simp (disch:=omega) only [h,amL,amT,sA,sF,↓reduceIte,reduceCtorEq]) | (refine Cy (fun h=>?_) (fun h=>?_) <;> simp (disch:=omega) only [h,Bi,amL,amT,sA,sB,sC,sD,sE,sF,sG,sH,sI,sJ,sK,sL,sM,sN,sO,↓reduceIte,reduceCtorEq])
  all_goals
   skip
   refine hK4 _ ?_
   refine Al rfl (fun h=>MT.x ?_) (fun h=>ME.x ?_)
   all_goals
    first
    |refine MT.mk ?_
     first
     |exact Bool.noConfusion h
     |skip
      try simp only [nrm] at h
      refine Ad fun K5 hK5=>?_
      simp (disch:=omega) only [amL,sA]
      refine hK5 _ ?_
      refine Aj ?_
      try simp (disch:=omega) only [amL,↓reduceIte]
      all_goals first | (unfold B5; rw [if_pos (by omega)]; done) | (unfold B5; rw [if_neg (by omega),if_pos (by omega)]; done) | (unfold B5; rw [if_neg (by omega),if_neg (by omega),if_pos (by first | (simp_all; done) | fail)]; done) | (unfold B5; rw [if_neg (by omega),if_neg (by omega),if_neg (by first | (simp_all; done) | fail),if_pos (by first | assumption | fail)]; done) | (unfold B5; rw [if_neg (by omega),if_neg (by omega),if_neg (by rw [hv]; decide),if_neg (by rw [hs]; decide)]; rw [Vr (by assumption) (by assumption)] at h; first | (rw [if_pos (show 2000 < N9 b from h)]; done) | (rw [if_neg (show ¬ 2000 < N9 b from h)]; done)) | trace_state
    |refine ME.mk ?_
     first
     |exact Bool.noConfusion h
     |skip
      try simp only [nrm] at h
      refine Ad fun K6 hK6=>?_
      simp (disch:=omega) only [amL,amT,sA,sF,↓reduceIte,reduceCtorEq]
      repeat' first | (refine Eo (fun h=>?_) (fun h=>?_) <;> simp (disch:=omega) only [h,amL,amT,sA,sF,sG,↓reduceIte,reduceCtorEq]) | (refine Cy (fun h=>?_) (fun h=>?_) <;> simp (disch:=omega) only [h,amL,amT,sA,sF,sG,↓reduceIte,reduceCtorEq]) | (refine Cc (bd:=52) (by decide) (Bb6 b.vs hl) (Lg rfl) (by decide) rfl ?_ ; simp (disch:=omega) only [amL,sA,sF,↓reduceIte]) | (refine Cc (bd:=52) (by decide) (Az6 b b.ss hl hl2) (Lg rfl) (by decide) rfl ?_ ; simp (disch:=omega) only [amL,sA,sF,↓reduceIte])
      all_goals
       skip
       refine hK6 _ ?_
       refine Al rfl (fun h=>MT.x ?_) (fun h=>ME.x ?_)
       all_goals
        first
        |refine MT.mk ?_
         first
         |exact Bool.noConfusion h
         |skip
          try simp only [nrm] at h
          refine Ad fun K7 hK7=>?_
          simp (disch:=omega) only [amL,sA]
          refine hK7 _ ?_
          refine Aj ?_
          try simp (disch:=omega) only [amL,↓reduceIte]
          all_goals first | (unfold B5; rw [if_pos (by omega)]; done) | (unfold B5; rw [if_neg (by omega),if_pos (by omega)]; done) | (unfold B5; rw [if_neg (by omega),if_neg (by omega),if_pos (by first | (simp_all; done) | fail)]; done) | (unfold B5; rw [if_neg (by omega),if_neg (by omega),if_neg (by first | (simp_all; done) | fail),if_pos (by first | assumption | fail)]; done) | (unfold B5; rw [if_neg (by omega),if_neg (by omega),if_neg (by rw [hv]; decide),if_neg (by rw [hs]; decide)]; rw [Vr (by assumption) (by assumption)] at h; first | (rw [if_pos (show 2000 < N9 b from h)]; done) | (rw [if_neg (show ¬ 2000 < N9 b from h)]; done)) | trace_state
        |refine ME.mk ?_
         first
         |exact Bool.noConfusion h
         |skip
          try simp only [nrm] at h
          refine Am ?_
          refine hK3 _ ?_
   all_goals
    skip
    refine Ad fun K8 hK8=>?_
    have hv:b.vs.all Eu=true:=by simp_all
    have hs:b.ss.all (F4 b.vs.length)=true:=by simp_all
    have hpb:=Uo (Yy hv hs)
    have hln:=Q9 (b:=b)
    simp (disch:=omega) only [amL,sA]
    refine hK8 _ ?_
    refine Ab fun K9 hK9=>?_
    refine Ad fun K10 hK10=>?_
    simp (disch:=omega) only [amL,amT,sA,sB,sF,sG,↓reduceIte]
    repeat' first | (refine Ax (by kernel_rfl) rfl (Ace b hl hl2) (by first | exact .inl rfl | exact .inr (.inl rfl)) ?_ ; simp (disch:=omega) only [amL,amT,sA,↓reduceIte])
    refine hK10 _ ?_
    refine Ar ?_
    skip
    refine Bg (α:=Nat) (fun k=>⟨T [(4,i64 (L8 ((Fy b).take k) 1)),(39,.p (.sl ((Fy b).map Hy))),(40,i64 (Fy b).length),(41,i64 (k:Int))],O []⟩) (fun k=>(Fy b).length - k) (fun k=>k≤(Fy b).length) 0 ?_ ?_ (fun k hx11 K11 hK11=>?_)
    · simp
    · refine Df ?_ ?_ ?_ ?_ <;> (try simp (disch:=omega) only [amL,sF,↓reduceIte]); all_goals rfl
    have hk:=hx11
    refine Ad fun K12 hK12=>?_
    simp (disch:=omega) only [amL,amT,sA,sF,↓reduceIte]
    refine hK12 _ ?_
    refine Ab fun K13 hK13=>?_
    refine Al rfl (fun h=>MT.x ?_) (fun h=>ME.x ?_)
    all_goals
     first
     |refine MT.mk ?_
      first
      |exact Bool.noConfusion h
      |skip
       try simp only [nrm] at h
       refine Am ?_
       refine hK13 _ ?_
     |refine ME.mk ?_
      first
      |exact Bool.noConfusion h
      |skip
       try simp only [nrm] at h
       refine Bq ?_
       refine hK9 _ ?_
       refine Ab fun K14 hK14=>?_
       refine Ad fun K15 hK15=>?_
       simp (disch:=omega) only [amL,amT,sA,sF,↓reduceIte]
       refine hK15 _ ?_
       refine Al rfl (fun h=>MT.x ?_) (fun h=>ME.x ?_)
       all_goals
        first
        |refine MT.mk ?_
         first
         |exact Bool.noConfusion h
         |skip
          try simp only [nrm] at h
          refine Ad fun K16 hK16=>?_
          simp (disch:=omega) only [amL,sA]
          refine hK16 _ ?_
          refine Aj ?_
          try simp (disch:=omega) only [amL,↓reduceIte]
          all_goals first | (unfold B5; rw [if_pos (by omega)]; done) | (unfold B5; rw [if_neg (by omega),if_pos (by omega)]; done) | (unfold B5; rw [if_neg (by omega),if_neg (by omega),if_pos (by first | (simp_all; done) | fail)]; done) | (unfold B5; rw [if_neg (by omega),if_neg (by omega),if_neg (by first | (simp_all; done) | fail),if_pos (by first | assumption | fail)]; done) | (unfold B5; rw [if_neg (by omega),if_neg (by omega),if_neg (by rw [hv]; decide),if_neg (by rw [hs]; decide)]; rw [Vr (by assumption) (by assumption)] at h; first | (rw [if_pos (show 2000 < N9 b from h)]; done) | (rw [if_neg (show ¬ 2000 < N9 b from h)]; done)) | trace_state
        |refine ME.mk ?_
         first
         |exact Bool.noConfusion h
         |skip
          try simp only [nrm] at h
          refine Am ?_
          refine hK14 _ ?_
       all_goals
        skip
        refine Ad fun K17 hK17=>?_
        simp (disch:=omega) only [amL,sA]
        refine hK17 _ ?_
        refine Aj ?_
        try simp (disch:=omega) only [amL,↓reduceIte]
        all_goals first | (unfold B5; rw [if_pos (by omega)]; done) | (unfold B5; rw [if_neg (by omega),if_pos (by omega)]; done) | (unfold B5; rw [if_neg (by omega),if_neg (by omega),if_pos (by first | (simp_all; done) | fail)]; done) | (unfold B5; rw [if_neg (by omega),if_neg (by omega),if_neg (by first | (simp_all; done) | fail),if_pos (by first | assumption | fail)]; done) | (unfold B5; rw [if_neg (by omega),if_neg (by omega),if_neg (by rw [hv]; decide),if_neg (by rw [hs]; decide)]; rw [Vr (by assumption) (by assumption)] at h; first | (rw [if_pos (show 2000 < N9 b from h)]; done) | (rw [if_neg (show ¬ 2000 < N9 b from h)]; done)) | trace_state
    all_goals
     skip
     refine Ab fun K18 hK18=>?_
     refine Ar ?_
     refine Ad fun K19 hK19=>?_
     simp (disch:=omega) only [Bi,amL,amT,sA,sB,sF,↓reduceIte]
     refine hK19 _ ?_
     refine Ah ?_
     have hsz:=Yy hv hs _ (AM.Wort.Dv default (show k < (Fy b).length by omega))
     have hp:=hpb k (by omega)
     have hp3:=Ap9 (k:=k) (by omega)
     have hm:=Ajo hp.1 (by omega) hsz.1 hsz.2
     have hw:IntKind.i64.wrap (L8 ((Fy b).take k) 1 * Fb ((Fy b).getD k default))=_:=Fc hm.1 hm.2
     have hw2:IntKind.i64.wrap ((k:Int)+1)=_:=Fc (by omega) (by omega)
     unfold Fb at hsz
     simp (disch:=omega) only [amL,amT,sA,sB,sF,sG,↓reduceIte]
     repeat' first | (refine Ax (by kernel_rfl) rfl (Afo ((Fy b).getD k default) (by omega) (by omega)) (by first | exact .inl rfl | exact .inr (.inl rfl)) ?_ ; simp (disch:=omega) only [amL,amT,sA,sF,↓reduceIte])
     refine hK18 _ ?_
     refine Ah ?_
     simp (disch:=omega) only [amL,amT,sA,sF,↓reduceIte]
     refine hK11 (k+1) _ ?_ ?_ (Df ?_ ?_ ?_ ?_)
     all_goals (try simp (disch:=omega) only [amL,sF,↓reduceIte])
     all_goals first | omega | (rw [Uk (l:=Fy b) (k:=k) (by omega)]) | trace_state
theorem Ay {l:List (Nat × AO)} {b:Nat} (h:l.all fun x=>decide (x.1 < b)):∀ n,b≤n→O l n=none:=by
  intro n hn
  induction l with
  | nil=>rfl
  | cons x l ih=>
    simp only [List.all_cons,Bool.and_eq_true,decide_eq_true_eq] at h
    rw [Ag,if_neg (by omega)]
    exact ih h.2
theorem Bw {r:RB} {N:Nat} {s:St} {K:St→Prop} {dst:Option Nat} {ty:TypeId} {pos:String} {after:Array Edge} {g:Option (Nat × Bool)} {x:Operand} {lo hi:Option Operand}:EO Try.prog r N ⟨dst,.slice 166 x lo hi none,ty,pos,after,g⟩ s K=EOp r.b N dst s K (Ap8 (fun e=>(Aa Try.prog e).sz) (fun e=>(Aa Try.prog e).agg) 4 164 (ev s.t x) (Ba (ev s.t) 0 lo) (Ba (ev s.t) 4 hi)):=Xl (by rw [Ag3])
theorem ld2 {a b:AV} {l:List AV}:(if 2≤(a :: b :: l).length then some (AV.agg (List.take 2 (a :: b :: l))) else none)=some (.agg [a,b]):=by simp
theorem B9 {n:Nat} (v:List Liq):(cW v).map (AV.purge n)=cW v:=by
  unfold cW
  rw [List.map_map]; rfl
theorem Afw {ks:List Nat} (v:List Liq):nmL ks (cW v)=true:=by
  unfold cW
  generalize wI v=l
  induction l with
  | nil=>rfl
  | cons x l ih=>simp only [List.map_cons,nmL,nm,ih,Bool.and_self]
def Dl (b:Ed) (t:Tru):AV:=
  if B5 b=0 then
    if F0 b t=true then
      if (Me b t).2=true then .tup [.p (.sl (((Me b t).1.take b.vs.length).map fun l=>Bc6 (Bgd l))),i64 0] else .tup [C4,i64 11]
    else .tup [C4,i64 2]
  else .tup [C4,i64 (B5 b)]
theorem Akh (b:Ed) (t:Tru):(Dl b t).isP=true:=by
  unfold Dl; split <;> (try split) <;> (try split) <;> rfl
theorem Aqs (b:Ed) (t:Tru) (hl:b.vs.length < 1000000) (hl2:b.ss.length < 1000000) (hn:(Jy t).length≤1000000):Bv Try.prog 16 [avB b,avT t] (Dl b t):=by
  refine Bo (v:=[61,62]) (q:=[]) (N:=99) (rs:=[.tmp 4,.tmp 5]) Try.func16 rfl rfl rfl rfl (Akh b t) ?_
  have hnl:=Amm t
  have hrl:=Q9 (b:=b)
  have hcc:=Amt [t.g,t.d,t.m] (by simp) hn
  rw [show [t.g,t.d,t.m].flatten=Jy t from rfl] at hcc
  refine Ab fun K1 hK1=>?_
  refine Ah ?_
  simp (disch:=omega) only [Af,Ag,amL,sA,sB,sF,↓reduceIte,reduceCtorEq]
  refine hK1 _ ?_
  refine Ab fun K2 hK2=>?_
  refine Ab fun K3 hK3=>?_
  refine Ah ?_
  simp (disch:=omega) only [Af,Ag,amL,amT,sA,sB,sF,sG,↓reduceIte]
  repeat' first | (refine Ax (by kernel_rfl) rfl (Agg b hl hl2) (by first | exact .inl rfl | exact .inr (.inl rfl)) ?_ ; simp (disch:=omega) only [Af,amL,sA,↓reduceIte])
  refine hK3 _ ?_
  refine Ab fun K4 hK4=>?_
  refine Ah ?_
  simp (disch:=omega) only [ne_eq,Af,amL,amT,sA,↓reduceIte]
  refine hK4 _ ?_
  refine Al rfl (fun h=>?_) (fun h=>?_)
  ·first
   | exact Bool.noConfusion h
   |skip
    try simp only [Bool.not_eq_true',decide_eq_false_iff_not,decide_not] at h
    refine Ab fun K5 hK5=>?_
    refine Ah ?_
    simp (disch:=omega) only [Af,amL,sA,sF,↓reduceIte]
    refine hK5 _ ?_
    refine Aj ?_
    try simp (disch:=omega) only [Af,amL,sF,↓reduceIte]
    all_goals first | (rw [Dl,if_neg (by assumption)]; done) | (have e9:k=b.vs.length:=(by omega) ; rw [Dl,if_pos hf0,if_pos hli,if_pos hbt,List.take_of_length_le (by simp ; omega),e9,hw] ; done) | (rw [Dl,if_pos hf0,if_pos hli,if_neg (by simpa using h)]; done) | (rw [Dl,if_pos (by omega),if_neg (fun e=>by have:=Dm e; omega)]; done) | (rw [Dl,if_pos (by omega),if_neg (fun e=>by have:=J7 e (k:=k) (by omega); simp_all)]; done) | trace_state
  ·first
   | exact Bool.noConfusion h
   |skip
    try simp only [decide_eq_true_eq,Bool.not_eq_false',decide_not] at h
    refine Am ?_
    refine hK2 _ ?_
    refine Ab fun K6 hK6=>?_
    refine Ah ?_
    simp (disch:=omega) only [and_self,Af,Ag,amL,amT,sA,sB,sE,sF,sG,↓reduceIte,reduceCtorEq]
    repeat' first | (refine Ui (by kernel_rfl) (by decide) (hcc) (by simp (disch:=omega) only [Ag,amL,sF,↓reduceIte]) ?_ ; simp (disch:=omega) only [Af,amL,sA,↓reduceIte])
    refine hK6 _ ?_
    refine Ab fun K7 hK7=>?_
    refine Ab fun K8 hK8=>?_
    refine Ah ?_
    simp (disch:=omega) only [ne_eq,Af,Ag,amL,amT,sA,sF,↓reduceIte,reduceCtorEq]
    repeat' first | (refine Eo (fun h=>?_) (fun h=>?_) <;> simp (disch:=omega) only [h,ne_eq,Af,Ag,amL,amT,sA,sF,↓reduceIte,reduceCtorEq]) | (refine Cy (fun h=>?_) (fun h=>?_) <;> simp (disch:=omega) only [h,Bi,Bm,ne_eq,Ac,A3,Aw,Bb,A4,and_self,Af,Ag,A0,Bw,B1,Bl,Bk,B4,Ka,Jo,Ld,Int.sub_zero,Int.toNat_natCast,Cb,ld2,B9,amL,amT,sA,sB,sC,sD,sE,sF,sG,sH,sI,sJ,sK,sL,sM,sN,sO,↓reduceIte,reduceCtorEq])
    all_goals
     skip
     refine hK8 _ ?_
     refine Al rfl (fun h=>?_) (fun h=>?_)
     ·first
      | exact Bool.noConfusion h
      |skip
       try simp only [Bool.not_eq_true',decide_eq_false_iff_not,decide_not] at h
       refine Ab fun K9 hK9=>?_
       refine Ah ?_
       simp (disch:=omega) only [amL,sA]
       refine hK9 _ ?_
       refine Aj ?_
       try simp (disch:=omega) only [Af,amL,sF,↓reduceIte]
       all_goals first | (rw [Dl,if_neg (by assumption)]; done) | (have e9:k=b.vs.length:=(by omega) ; rw [Dl,if_pos hf0,if_pos hli,if_pos hbt,List.take_of_length_le (by simp ; omega),e9,hw] ; done) | (rw [Dl,if_pos hf0,if_pos hli,if_neg (by simpa using h)]; done) | (rw [Dl,if_pos (by omega),if_neg (fun e=>by have:=Dm e; omega)]; done) | (rw [Dl,if_pos (by omega),if_neg (fun e=>by have:=J7 e (k:=k) (by omega); simp_all)]; done) | trace_state
     ·first
      | exact Bool.noConfusion h
      |skip
       try simp only [decide_eq_true_eq,Bool.not_eq_false',decide_not] at h
       refine Am ?_
       refine hK7 _ ?_
       refine Ab fun K10 hK10=>?_
       refine Ab fun K11 hK11=>?_
       refine Ah ?_
       simp (disch:=omega) only [Af,Ag,amL,amT,sA,sB,sF,sG,↓reduceIte]
       repeat' first | (refine Ax (by kernel_rfl) rfl (Ace b hl hl2) (by first | exact .inl rfl | exact .inr (.inl rfl)) ?_ ; simp (disch:=omega) only [Af,amL,amT,sA,↓reduceIte])
       refine hK11 _ ?_
       refine Ar ?_
       skip
       refine Bg (α:=Nat) (fun k=>⟨T [(2,.ptr 2 0),(3,.ptr 3 0),(4,C4),(5,i64 0),(6,i64 (B5 b)),(7,.own 27 (Jy t).length),(54,.p (.sl ((Fy b).map Hy))),(55,i64 (Fy b).length),(56,i64 (k:Int))],O [(2,.cells (cB b)),(3,.cells (cT t)),(27,.arr 1 ((Jy t).map H8))]⟩) (fun k=>(Fy b).length - k) (fun k=>k≤(Fy b).length∧∀ j,j < k→Jm ((Fy b).getD j default) ((Jy t).getD j 0)=true) 0 ?_ ?_ (fun k hx12 K12 hK12=>?_)
       · exact ⟨by simp,fun j hj=>absurd hj (Nat.not_lt_zero _)⟩
       · refine Df ?_ ?_ ?_ ?_ <;> (try simp (disch:=omega) only [A3,Aw,Bb,A4,and_self,Af,Ag,amL,sF,sG,↓reduceIte]); all_goals first | rfl | trace_state
       obtain ⟨hk,hpre⟩:=hx12
       refine Ab fun K13 hK13=>?_
       refine Ah ?_
       simp (disch:=omega) only [Af,amL,amT,sA,sF,↓reduceIte]
       refine hK13 _ ?_
       refine Ab fun K14 hK14=>?_
       refine Al rfl (fun h=>?_) (fun h=>?_)
       ·first
        | exact Bool.noConfusion h
        |skip
         try simp only [decide_eq_true_eq] at h
         refine Am ?_
         refine hK14 _ ?_
         refine Ab fun K15 hK15=>?_
         refine Ar ?_
         refine Ab fun K16 hK16=>?_
         refine Ah ?_
         simp (disch:=omega) only [Bi,and_self,Af,Ag,Int.toNat_natCast,amL,amT,sA,sB,sF,↓reduceIte]
         refine hK16 _ ?_
         refine Ab fun K17 hK17=>?_
         refine Ch (by kernel_rfl) (by kernel_rfl) ?_
         simp (disch:=omega) only [Bm,and_self,Af,Ag,Int.toNat_natCast,amL,amT,sA,sB,sF,sG,↓reduceIte]
         repeat' first | (refine Ax (by kernel_rfl) rfl (Agh ((Fy b).getD k default) ((Jy t).getD k 0)) (by first | exact .inl rfl | exact .inr (.inl rfl)) ?_ ; simp (disch:=omega) only [Af,amL,sA,↓reduceIte])
         refine hK17 _ ?_
         refine Al rfl (fun h=>?_) (fun h=>?_)
         ·first
          | exact Bool.noConfusion h
          |skip
           try simp only [Bool.not_eq_true'] at h
           refine Ab fun K18 hK18=>?_
           refine Ah ?_
           simp (disch:=omega) only [amL,sA]
           refine hK18 _ ?_
           refine Aj ?_
           try simp (disch:=omega) only [Af,amL,sF,↓reduceIte]
           all_goals first | (rw [Dl,if_neg (by assumption)]; done) | (have e9:k=b.vs.length:=(by omega) ; rw [Dl,if_pos hf0,if_pos hli,if_pos hbt,List.take_of_length_le (by simp ; omega),e9,hw] ; done) | (rw [Dl,if_pos hf0,if_pos hli,if_neg (by simpa using h)]; done) | (rw [Dl,if_pos (by omega),if_neg (fun e=>by have:=Dm e; omega)]; done) | (rw [Dl,if_pos (by omega),if_neg (fun e=>by have:=J7 e (k:=k) (by omega); simp_all)]; done) | trace_state
         ·first
          | exact Bool.noConfusion h
          |skip
           try simp only [Bool.not_eq_false'] at h
           refine Am ?_
           refine hK15 _ ?_
           refine Ah ?_
           simp (disch:=omega) only [Af,amL,amT,sA,sF,↓reduceIte]
           refine hK12 (k+1) _ ?_ ?_ (Df ?_ ?_ ?_ ?_)
           all_goals (try simp (disch:=omega) only [A3,Aw,Bb,A4,and_self,Af,Ag,amL,sF,sG,↓reduceIte])
           all_goals first | omega | exact ⟨by omega,fun j hj=>by
             by_cases e:j=k
             · subst e; assumption
             · exact hpre j (by omega)⟩ | trace_state
       ·first
        | exact Bool.noConfusion h
        |skip
         try simp only [decide_eq_false_iff_not] at h
         refine Bq ?_
         refine hK10 _ ?_
         refine Ab fun K19 hK19=>?_
         have hli:F0 b t=true:=Aj7 (by omega) (by omega) (by omega) (fun j hj=>hpre j (by omega))
         have hf0:B5 b=0:=by omega
         have hval:=Aa9 hf0
         obtain ⟨hw4,hwo⟩:=Amw hval hli
         obtain ⟨w,hw⟩:∃ w,w=(Me b t).1:=⟨_,rfl⟩
         rw [← hw] at hw4 hwo
         have hpc:A1 [i64 0,i64 0,i64 0,i64 0,i64 0,i64 0,i64 0,i64 0] 0 (cW w)=cW w:=B7 (v:=v0) hw4
         refine Ah5 [(2,.ptr 2 0),(4,C4),(5,i64 0),(10,.ptr 10 0),(11,bl (Me b t).2)] [(2,.cells (cB b)),(10,.cells (cW w))] hK19 rfl (by simp only [Vs,nmO,Afw,nmL,nm,Bool.and_self]) ?_ (fun K19 hK19=>?_)
         · refine Aol (n:=5) (l:=[0,1,0,7,15,31,31,0,191,511]) (by kernel_rfl) (by kernel_rfl) (by kernel_rfl) ?_
           refine Fi (ls:=[0,2,7]) rfl ⟨?_,?_,?_,trivial⟩
           · refine Dy (rem':=[1,2,3,4,5,6,7,8,9]) rfl rfl ?_
             simp (disch:=omega) only [Af,Ag,amL,amT,sA,sB,sF,↓reduceIte]
             refine Fi (ls:=[1,2,7]) rfl ⟨?_,?_,?_,trivial⟩
             · refine Dy (rem':=[2,3,4,5,6,7,8,9]) rfl rfl ?_
               simp (disch:=omega) only [Af,amL,sG,↓reduceIte]
               refine A2 [(2,.ptr 2 0),(3,.ptr 3 0),(4,C4),(5,i64 0)] (by decide) (Dp (b:=b) (bd:=99)) (Ay rfl) (by decide) (fun res os2 hR hcl2 hlv2=>?_)
               obtain ⟨rfl,rfl⟩:=hR
               simp (disch:=omega) only [A3,Aw,and_self,Af,Ag,amL,sB,sF,↓reduceIte]
               refine Fi (ls:=[2,7]) rfl ⟨?_,?_,trivial⟩
               · refine Dy (rem':=[3,4,5,6,7,8,9]) rfl rfl ?_
                 simp (disch:=omega) only [Af,Ag,amL,amT,sA,sB,sF,↓reduceIte]
                 refine Fi (ls:=[3,7]) rfl ⟨?_,?_,trivial⟩
                 · refine Dy (rem':=[4,5,6,7,8,9]) rfl rfl ?_
                   simp (disch:=omega) only [Af,amL,sF,sG,↓reduceIte]
                   (refine Cc (bd:=300) (by decide) (Ek (m:=103) ⟨by simp (disch:=omega) only [Ag,↓reduceIte],by simp (disch:=omega) only [Ag,sF,↓reduceIte]⟩ hval hli) (fun q hq=>by simp (disch:=omega) only []; exact Ay rfl q (by omega)) (by decide) (Eb _ _) ?_ ; rw [← hw] ; simp (disch:=omega) only [amL])
                   refine D1 (by kernel_rfl) ?_
                   show EL _ _ _ _ [_,_,_,_,_,_] _ _
                   simp (disch:=omega) only [and_self,Af,Ag,A0,amL,amT,sA,sB,sF,↓reduceIte]
                   try (refine A2 [(2,.ptr 2 0),(3,.ptr 3 0),(4,C4),(5,i64 0),(72,avT t),(10,.ptr 10 0)] (by decide) (Dp (b:=b) (bd:=99)) (Ay rfl) (by decide) (fun res os2 hR hcl2 hlv2=>?_) ; obtain ⟨rfl,rfl⟩:=hR ; simp (disch:=omega) only [Bi,Bm,ne_eq,Ac,A3,Aw,Bb,A4,and_self,Af,Ag,A0,Bw,B1,Bl,Bk,B4,Ka,Jo,Ld,Int.sub_zero,Int.toNat_natCast,Cb,ld2,B9,amL,amT,sA,sB,sC,sD,sE,sF,sG,sH,sI,sJ,sK,sL,sM,sN,sO,↓reduceIte,reduceCtorEq])
                   try (refine Cc (bd:=300) (by decide) (Ek (m:=103) ⟨by simp (disch:=omega) only [Bi,Bm,ne_eq,Ac,A3,Aw,Bb,A4,and_self,Af,Ag,A0,Bw,B1,Bl,Bk,B4,Ka,Jo,Ld,Int.sub_zero,Int.toNat_natCast,Cb,ld2,B9,amL,amT,sA,sB,sC,sD,sE,sF,sG,sH,sI,sJ,sK,sL,sM,sN,sO,↓reduceIte,reduceCtorEq],by simp (disch:=omega) only [Bi,Bm,ne_eq,Ac,A3,Aw,Bb,A4,and_self,Af,Ag,A0,Bw,B1,Bl,Bk,B4,Ka,Jo,Ld,Int.sub_zero,Int.toNat_natCast,Cb,ld2,B9,amL,amT,sA,sB,sC,sD,sE,sF,sG,sH,sI,sJ,sK,sL,sM,sN,sO,↓reduceIte,reduceCtorEq]⟩ hval hli) (fun q hq=>by simp (disch:=omega) only [Ac]; exact Ay rfl q (by omega)) (by decide) (Eb _ _) ?_ ; rw [← hw] ; simp (disch:=omega) only [Bi,Bm,ne_eq,Ac,A3,Aw,Bb,A4,and_self,Af,Ag,A0,Bw,B1,Bl,Bk,B4,Ka,Jo,Ld,Int.sub_zero,Int.toNat_natCast,Cb,ld2,B9,amL,amT,sA,sB,sC,sD,sE,sF,sG,sH,sI,sJ,sK,sL,sM,sN,sO,↓reduceIte,reduceCtorEq])
                   exact ⟨rfl,by simp (disch:=omega) only [A3,Aw,and_self,Af,sF,↓reduceIte],by simp (disch:=omega) only [Bb,A4,Ag,amL,sF,↓reduceIte] ; try exact congrArg AO.cells hpc⟩
                 · refine Dy (rem':=[3,4,5,6,8,9]) rfl rfl ?_
                   simp (disch:=omega) only [and_self,Ag,amL,amT,sA,sB,sF,↓reduceIte]
                   refine D1 (by kernel_rfl) ?_
                   show EL _ _ _ _ [_,_,_,_,_,_] _ _
                   simp (disch:=omega) only [Af,amL,sF,sG,↓reduceIte]
                   try (refine A2 [(2,.ptr 2 0),(3,.ptr 3 0),(4,C4),(5,i64 0),(72,avT t),(10,.ptr 10 0)] (by decide) (Dp (b:=b) (bd:=99)) (Ay rfl) (by decide) (fun res os2 hR hcl2 hlv2=>?_) ; obtain ⟨rfl,rfl⟩:=hR ; simp (disch:=omega) only [Bi,Bm,ne_eq,Ac,A3,Aw,Bb,A4,and_self,Af,Ag,A0,Bw,B1,Bl,Bk,B4,Ka,Jo,Ld,Int.sub_zero,Int.toNat_natCast,Cb,ld2,B9,amL,amT,sA,sB,sC,sD,sE,sF,sG,sH,sI,sJ,sK,sL,sM,sN,sO,↓reduceIte,reduceCtorEq])
                   try (refine Cc (bd:=300) (by decide) (Ek (m:=103) ⟨by simp (disch:=omega) only [Ag,sF,↓reduceIte],by simp (disch:=omega) only [Ag,sF,↓reduceIte]⟩ hval hli) (fun q hq=>by simp (disch:=omega) only []; exact Ay rfl q (by omega)) (by decide) (Eb _ _) ?_ ; rw [← hw] ; simp (disch:=omega) only [Af,Ag,A0,amL,amT,sA,sB,sF,↓reduceIte])
                   exact ⟨rfl,by simp (disch:=omega) only [A3,Aw,and_self,Af,sF,↓reduceIte],by simp (disch:=omega) only [Bb,A4,Ag,amL,sF,↓reduceIte] ; try exact congrArg AO.cells hpc⟩
               · refine Dy (rem':=[2,3,4,5,6,8,9]) rfl rfl ?_
                 simp (disch:=omega) only [and_self,Ag,amL,amT,sA,sB,sF,↓reduceIte]
                 refine D1 (by kernel_rfl) ?_
                 show EL _ _ _ _ [_,_,_,_,_,_,_] _ _
                 simp (disch:=omega) only [Af,Ag,amL,amT,sA,sB,sF,sG,↓reduceIte]
                 try (refine A2 [(2,.ptr 2 0),(3,.ptr 3 0),(4,C4),(5,i64 0),(72,avT t),(10,.ptr 10 0)] (by decide) (Dp (b:=b) (bd:=99)) (Ay rfl) (by decide) (fun res os2 hR hcl2 hlv2=>?_) ; obtain ⟨rfl,rfl⟩:=hR ; simp (disch:=omega) only [Bi,Bm,ne_eq,Ac,A3,Aw,Bb,A4,and_self,Af,Ag,A0,Bw,B1,Bl,Bk,B4,Ka,Jo,Ld,Int.sub_zero,Int.toNat_natCast,Cb,ld2,B9,amL,amT,sA,sB,sC,sD,sE,sF,sG,sH,sI,sJ,sK,sL,sM,sN,sO,↓reduceIte,reduceCtorEq])
                 try (refine Cc (bd:=300) (by decide) (Ek (m:=103) ⟨by simp (disch:=omega) only [Ag,sF,↓reduceIte],by simp (disch:=omega) only [Ag,sF,↓reduceIte]⟩ hval hli) (fun q hq=>by simp (disch:=omega) only []; exact Ay rfl q (by omega)) (by decide) (Eb _ _) ?_ ; rw [← hw] ; simp (disch:=omega) only [Af,Ag,A0,amL,amT,sA,sB,sF,↓reduceIte])
                 exact ⟨rfl,by simp (disch:=omega) only [A3,Aw,and_self,Af,sF,↓reduceIte],by simp (disch:=omega) only [Bb,A4,Ag,amL,sF,↓reduceIte] ; try exact congrArg AO.cells hpc⟩
             · refine Dy (rem':=[1,3,4,5,6,7,8,9]) rfl rfl ?_
               simp (disch:=omega) only [Af,Ag,amL,amT,sA,sB,sF,↓reduceIte]
               refine Fi (ls:=[1,7]) rfl ⟨?_,?_,trivial⟩
               · refine Dy (rem':=[3,4,5,6,7,8,9]) rfl rfl ?_
                 simp (disch:=omega) only [Af,amL,sF,sG,↓reduceIte]
                 refine A2 [(2,.ptr 2 0),(3,.ptr 3 0),(4,C4),(5,i64 0),(72,avT t)] (by decide) (Dp (b:=b) (bd:=99)) (Ay rfl) (by decide) (fun res os2 hR hcl2 hlv2=>?_)
                 obtain ⟨rfl,rfl⟩:=hR
                 simp (disch:=omega) only [A3,Aw,and_self,Af,Ag,amL,sB,sF,↓reduceIte]
                 refine Fi (ls:=[3,7]) rfl ⟨?_,?_,trivial⟩
                 · refine Dy (rem':=[4,5,6,7,8,9]) rfl rfl ?_
                   simp (disch:=omega) only [Af,amL,sF,sG,↓reduceIte]
                   (refine Cc (bd:=300) (by decide) (Ek (m:=103) ⟨by simp (disch:=omega) only [Ag,↓reduceIte],by simp (disch:=omega) only [Ag,sF,↓reduceIte]⟩ hval hli) (fun q hq=>by simp (disch:=omega) only []; exact Ay rfl q (by omega)) (by decide) (Eb _ _) ?_ ; rw [← hw] ; simp (disch:=omega) only [amL])
                   refine D1 (by kernel_rfl) ?_
                   show EL _ _ _ _ [_,_,_,_,_,_] _ _
                   simp (disch:=omega) only [and_self,Af,Ag,A0,amL,amT,sA,sB,sF,↓reduceIte]
                   try (refine A2 [(2,.ptr 2 0),(3,.ptr 3 0),(4,C4),(5,i64 0),(72,avT t),(10,.ptr 10 0)] (by decide) (Dp (b:=b) (bd:=99)) (Ay rfl) (by decide) (fun res os2 hR hcl2 hlv2=>?_) ; obtain ⟨rfl,rfl⟩:=hR ; simp (disch:=omega) only [Bi,Bm,ne_eq,Ac,A3,Aw,Bb,A4,and_self,Af,Ag,A0,Bw,B1,Bl,Bk,B4,Ka,Jo,Ld,Int.sub_zero,Int.toNat_natCast,Cb,ld2,B9,amL,amT,sA,sB,sC,sD,sE,sF,sG,sH,sI,sJ,sK,sL,sM,sN,sO,↓reduceIte,reduceCtorEq])
                   try (refine Cc (bd:=300) (by decide) (Ek (m:=103) ⟨by simp (disch:=omega) only [Bi,Bm,ne_eq,Ac,A3,Aw,Bb,A4,and_self,Af,Ag,A0,Bw,B1,Bl,Bk,B4,Ka,Jo,Ld,Int.sub_zero,Int.toNat_natCast,Cb,ld2,B9,amL,amT,sA,sB,sC,sD,sE,sF,sG,sH,sI,sJ,sK,sL,sM,sN,sO,↓reduceIte,reduceCtorEq],by simp (disch:=omega) only [Bi,Bm,ne_eq,Ac,A3,Aw,Bb,A4,and_self,Af,Ag,A0,Bw,B1,Bl,Bk,B4,Ka,Jo,Ld,Int.sub_zero,Int.toNat_natCast,Cb,ld2,B9,amL,amT,sA,sB,sC,sD,sE,sF,sG,sH,sI,sJ,sK,sL,sM,sN,sO,↓reduceIte,reduceCtorEq]⟩ hval hli) (fun q hq=>by simp (disch:=omega) only [Ac]; exact Ay rfl q (by omega)) (by decide) (Eb _ _) ?_ ; rw [← hw] ; simp (disch:=omega) only [Bi,Bm,ne_eq,Ac,A3,Aw,Bb,A4,and_self,Af,Ag,A0,Bw,B1,Bl,Bk,B4,Ka,Jo,Ld,Int.sub_zero,Int.toNat_natCast,Cb,ld2,B9,amL,amT,sA,sB,sC,sD,sE,sF,sG,sH,sI,sJ,sK,sL,sM,sN,sO,↓reduceIte,reduceCtorEq])
                   exact ⟨rfl,by simp (disch:=omega) only [A3,Aw,and_self,Af,sF,↓reduceIte],by simp (disch:=omega) only [Bb,A4,Ag,amL,sF,↓reduceIte] ; try exact congrArg AO.cells hpc⟩
                 · refine Dy (rem':=[3,4,5,6,8,9]) rfl rfl ?_
                   simp (disch:=omega) only [and_self,Ag,amL,amT,sA,sB,sF,↓reduceIte]
                   refine D1 (by kernel_rfl) ?_
                   show EL _ _ _ _ [_,_,_,_,_,_] _ _
                   simp (disch:=omega) only [Af,amL,sF,sG,↓reduceIte]
                   try (refine A2 [(2,.ptr 2 0),(3,.ptr 3 0),(4,C4),(5,i64 0),(72,avT t),(10,.ptr 10 0)] (by decide) (Dp (b:=b) (bd:=99)) (Ay rfl) (by decide) (fun res os2 hR hcl2 hlv2=>?_) ; obtain ⟨rfl,rfl⟩:=hR ; simp (disch:=omega) only [Bi,Bm,ne_eq,Ac,A3,Aw,Bb,A4,and_self,Af,Ag,A0,Bw,B1,Bl,Bk,B4,Ka,Jo,Ld,Int.sub_zero,Int.toNat_natCast,Cb,ld2,B9,amL,amT,sA,sB,sC,sD,sE,sF,sG,sH,sI,sJ,sK,sL,sM,sN,sO,↓reduceIte,reduceCtorEq])
                   try (refine Cc (bd:=300) (by decide) (Ek (m:=103) ⟨by simp (disch:=omega) only [Ag,sF,↓reduceIte],by simp (disch:=omega) only [Ag,sF,↓reduceIte]⟩ hval hli) (fun q hq=>by simp (disch:=omega) only []; exact Ay rfl q (by omega)) (by decide) (Eb _ _) ?_ ; rw [← hw] ; simp (disch:=omega) only [Af,Ag,A0,amL,amT,sA,sB,sF,↓reduceIte])
                   exact ⟨rfl,by simp (disch:=omega) only [A3,Aw,and_self,Af,sF,↓reduceIte],by simp (disch:=omega) only [Bb,A4,Ag,amL,sF,↓reduceIte] ; try exact congrArg AO.cells hpc⟩
               · refine Dy (rem':=[1,3,4,5,6,8,9]) rfl rfl ?_
                 simp (disch:=omega) only [and_self,Ag,amL,amT,sA,sB,sF,↓reduceIte]
                 refine D1 (by kernel_rfl) ?_
                 show EL _ _ _ _ [_,_,_,_,_,_,_] _ _
                 simp (disch:=omega) only [Af,amL,sF,sG,↓reduceIte]
                 try (refine A2 [(2,.ptr 2 0),(3,.ptr 3 0),(4,C4),(5,i64 0),(72,avT t),(10,.ptr 10 0)] (by decide) (Dp (b:=b) (bd:=99)) (Ay rfl) (by decide) (fun res os2 hR hcl2 hlv2=>?_) ; obtain ⟨rfl,rfl⟩:=hR ; simp (disch:=omega) only [A3,Aw,and_self,Af,Ag,amL,sB,sF,sG,↓reduceIte])
                 try (refine Cc (bd:=300) (by decide) (Ek (m:=103) ⟨by simp (disch:=omega) only [Ag,↓reduceIte],by simp (disch:=omega) only [Ag,sF,↓reduceIte]⟩ hval hli) (fun q hq=>by simp (disch:=omega) only []; exact Ay rfl q (by omega)) (by decide) (Eb _ _) ?_ ; rw [← hw] ; simp (disch:=omega) only [Af,Ag,A0,amL,amT,sA,sB,sF,↓reduceIte])
                 exact ⟨rfl,by simp (disch:=omega) only [A3,Aw,and_self,Af,sF,↓reduceIte],by simp (disch:=omega) only [Bb,A4,Ag,amL,sF,↓reduceIte] ; try exact congrArg AO.cells hpc⟩
             · refine Dy (rem':=[1,2,3,4,5,6,8,9]) rfl rfl ?_
               simp (disch:=omega) only [and_self,Ag,amL,amT,sA,sB,sF,↓reduceIte]
               refine Fi (ls:=[1,2]) rfl ⟨?_,?_,trivial⟩
               · refine Dy (rem':=[2,3,4,5,6,8,9]) rfl rfl ?_
                 simp (disch:=omega) only [Af,amL,sF,sG,↓reduceIte]
                 refine A2 [(2,.ptr 2 0),(3,.ptr 3 0),(4,C4),(5,i64 0),(10,.ptr 10 0)] (by decide) (Dp (b:=b) (bd:=99)) (Ay rfl) (by decide) (fun res os2 hR hcl2 hlv2=>?_)
                 obtain ⟨rfl,rfl⟩:=hR
                 simp (disch:=omega) only [A3,Aw,and_self,Af,Ag,amL,sB,sF,↓reduceIte]
                 refine D1 (by kernel_rfl) ?_
                 show EL _ _ _ _ [_,_,_,_,_,_,_] _ _
                 simp (disch:=omega) only [Af,Ag,amL,amT,sA,sB,sF,sG,↓reduceIte]
                 try (refine A2 [(2,.ptr 2 0),(3,.ptr 3 0),(4,C4),(5,i64 0),(72,avT t),(10,.ptr 10 0)] (by decide) (Dp (b:=b) (bd:=99)) (Ay rfl) (by decide) (fun res os2 hR hcl2 hlv2=>?_) ; obtain ⟨rfl,rfl⟩:=hR ; simp (disch:=omega) only [Bi,Bm,ne_eq,Ac,A3,Aw,Bb,A4,and_self,Af,Ag,A0,Bw,B1,Bl,Bk,B4,Ka,Jo,Ld,Int.sub_zero,Int.toNat_natCast,Cb,ld2,B9,amL,amT,sA,sB,sC,sD,sE,sF,sG,sH,sI,sJ,sK,sL,sM,sN,sO,↓reduceIte,reduceCtorEq])
                 try (refine Cc (bd:=300) (by decide) (Ek (m:=103) ⟨by simp (disch:=omega) only [Ag,↓reduceIte],by simp (disch:=omega) only [Ag,sF,↓reduceIte]⟩ hval hli) (fun q hq=>by simp (disch:=omega) only []; exact Ay rfl q (by omega)) (by decide) (Eb _ _) ?_ ; rw [← hw] ; simp (disch:=omega) only [Af,Ag,A0,amL,amT,sA,sB,sF,↓reduceIte])
                 exact ⟨rfl,by simp (disch:=omega) only [A3,Aw,and_self,Af,sF,↓reduceIte],by simp (disch:=omega) only [Bb,A4,Ag,amL,sF,↓reduceIte] ; try exact congrArg AO.cells hpc⟩
               · refine Dy (rem':=[1,3,4,5,6,8,9]) rfl rfl ?_
                 simp (disch:=omega) only [Af,Ag,amL,amT,sA,sB,sF,↓reduceIte]
                 refine D1 (by kernel_rfl) ?_
                 show EL _ _ _ _ [_,_,_,_,_,_,_] _ _
                 simp (disch:=omega) only [Af,amL,sF,sG,↓reduceIte]
                 try (refine A2 [(2,.ptr 2 0),(3,.ptr 3 0),(4,C4),(5,i64 0),(72,avT t),(10,.ptr 10 0)] (by decide) (Dp (b:=b) (bd:=99)) (Ay rfl) (by decide) (fun res os2 hR hcl2 hlv2=>?_) ; obtain ⟨rfl,rfl⟩:=hR ; simp (disch:=omega) only [A3,Aw,and_self,Af,Ag,amL,sB,sF,sG,↓reduceIte])
                 try (refine Cc (bd:=300) (by decide) (Ek (m:=103) ⟨by simp (disch:=omega) only [Ag,↓reduceIte],by simp (disch:=omega) only [Ag,sF,↓reduceIte]⟩ hval hli) (fun q hq=>by simp (disch:=omega) only []; exact Ay rfl q (by omega)) (by decide) (Eb _ _) ?_ ; rw [← hw] ; simp (disch:=omega) only [Af,Ag,A0,amL,amT,sA,sB,sF,↓reduceIte])
                 exact ⟨rfl,by simp (disch:=omega) only [A3,Aw,and_self,Af,sF,↓reduceIte],by simp (disch:=omega) only [Bb,A4,Ag,amL,sF,↓reduceIte] ; try exact congrArg AO.cells hpc⟩
           · refine Dy (rem':=[0,1,3,4,5,6,7,8,9]) rfl rfl ?_
             simp (disch:=omega) only [Af,Ag,amL,amT,sA,sB,sF,↓reduceIte]
             refine Fi (ls:=[0,7]) rfl ⟨?_,?_,trivial⟩
             · refine Dy (rem':=[1,3,4,5,6,7,8,9]) rfl rfl ?_
               simp (disch:=omega) only [Af,Ag,amL,amT,sA,sB,sF,↓reduceIte]
               refine Fi (ls:=[1,7]) rfl ⟨?_,?_,trivial⟩
               · refine Dy (rem':=[3,4,5,6,7,8,9]) rfl rfl ?_
                 simp (disch:=omega) only [Af,amL,sG,↓reduceIte]
                 refine A2 [(2,.ptr 2 0),(3,.ptr 3 0),(4,C4),(5,i64 0),(72,avT t)] (by decide) (Dp (b:=b) (bd:=99)) (Ay rfl) (by decide) (fun res os2 hR hcl2 hlv2=>?_)
                 obtain ⟨rfl,rfl⟩:=hR
                 simp (disch:=omega) only [A3,Aw,and_self,Af,Ag,amL,sB,sF,↓reduceIte]
                 refine Fi (ls:=[3,7]) rfl ⟨?_,?_,trivial⟩
                 · refine Dy (rem':=[4,5,6,7,8,9]) rfl rfl ?_
                   simp (disch:=omega) only [Af,amL,sF,sG,↓reduceIte]
                   (refine Cc (bd:=300) (by decide) (Ek (m:=103) ⟨by simp (disch:=omega) only [Ag,↓reduceIte],by simp (disch:=omega) only [Ag,sF,↓reduceIte]⟩ hval hli) (fun q hq=>by simp (disch:=omega) only []; exact Ay rfl q (by omega)) (by decide) (Eb _ _) ?_ ; rw [← hw] ; simp (disch:=omega) only [amL])
                   refine D1 (by kernel_rfl) ?_
                   show EL _ _ _ _ [_,_,_,_,_,_] _ _
                   simp (disch:=omega) only [and_self,Af,Ag,A0,amL,amT,sA,sB,sF,↓reduceIte]
                   try (refine A2 [(2,.ptr 2 0),(3,.ptr 3 0),(4,C4),(5,i64 0),(72,avT t),(10,.ptr 10 0)] (by decide) (Dp (b:=b) (bd:=99)) (Ay rfl) (by decide) (fun res os2 hR hcl2 hlv2=>?_) ; obtain ⟨rfl,rfl⟩:=hR ; simp (disch:=omega) only [Bi,Bm,ne_eq,Ac,A3,Aw,Bb,A4,and_self,Af,Ag,A0,Bw,B1,Bl,Bk,B4,Ka,Jo,Ld,Int.sub_zero,Int.toNat_natCast,Cb,ld2,B9,amL,amT,sA,sB,sC,sD,sE,sF,sG,sH,sI,sJ,sK,sL,sM,sN,sO,↓reduceIte,reduceCtorEq])
                   try (refine Cc (bd:=300) (by decide) (Ek (m:=103) ⟨by simp (disch:=omega) only [Bi,Bm,ne_eq,Ac,A3,Aw,Bb,A4,and_self,Af,Ag,A0,Bw,B1,Bl,Bk,B4,Ka,Jo,Ld,Int.sub_zero,Int.toNat_natCast,Cb,ld2,B9,amL,amT,sA,sB,sC,sD,sE,sF,sG,sH,sI,sJ,sK,sL,sM,sN,sO,↓reduceIte,reduceCtorEq],by simp (disch:=omega) only [Bi,Bm,ne_eq,Ac,A3,Aw,Bb,A4,and_self,Af,Ag,A0,Bw,B1,Bl,Bk,B4,Ka,Jo,Ld,Int.sub_zero,Int.toNat_natCast,Cb,ld2,B9,amL,amT,sA,sB,sC,sD,sE,sF,sG,sH,sI,sJ,sK,sL,sM,sN,sO,↓reduceIte,reduceCtorEq]⟩ hval hli) (fun q hq=>by simp (disch:=omega) only [Ac]; exact Ay rfl q (by omega)) (by decide) (Eb _ _) ?_ ; rw [← hw] ; simp (disch:=omega) only [Bi,Bm,ne_eq,Ac,A3,Aw,Bb,A4,and_self,Af,Ag,A0,Bw,B1,Bl,Bk,B4,Ka,Jo,Ld,Int.sub_zero,Int.toNat_natCast,Cb,ld2,B9,amL,amT,sA,sB,sC,sD,sE,sF,sG,sH,sI,sJ,sK,sL,sM,sN,sO,↓reduceIte,reduceCtorEq])
                   exact ⟨rfl,by simp (disch:=omega) only [A3,Aw,and_self,Af,sF,↓reduceIte],by simp (disch:=omega) only [Bb,A4,Ag,amL,sF,↓reduceIte] ; try exact congrArg AO.cells hpc⟩
                 · refine Dy (rem':=[3,4,5,6,8,9]) rfl rfl ?_
                   simp (disch:=omega) only [and_self,Ag,amL,amT,sA,sB,sF,↓reduceIte]
                   refine D1 (by kernel_rfl) ?_
                   show EL _ _ _ _ [_,_,_,_,_,_] _ _
                   simp (disch:=omega) only [Af,amL,sF,sG,↓reduceIte]
                   try (refine A2 [(2,.ptr 2 0),(3,.ptr 3 0),(4,C4),(5,i64 0),(72,avT t),(10,.ptr 10 0)] (by decide) (Dp (b:=b) (bd:=99)) (Ay rfl) (by decide) (fun res os2 hR hcl2 hlv2=>?_) ; obtain ⟨rfl,rfl⟩:=hR ; simp (disch:=omega) only [Bi,Bm,ne_eq,Ac,A3,Aw,Bb,A4,and_self,Af,Ag,A0,Bw,B1,Bl,Bk,B4,Ka,Jo,Ld,Int.sub_zero,Int.toNat_natCast,Cb,ld2,B9,amL,amT,sA,sB,sC,sD,sE,sF,sG,sH,sI,sJ,sK,sL,sM,sN,sO,↓reduceIte,reduceCtorEq])
                   try (refine Cc (bd:=300) (by decide) (Ek (m:=103) ⟨by simp (disch:=omega) only [Ag,sF,↓reduceIte],by simp (disch:=omega) only [Ag,sF,↓reduceIte]⟩ hval hli) (fun q hq=>by simp (disch:=omega) only []; exact Ay rfl q (by omega)) (by decide) (Eb _ _) ?_ ; rw [← hw] ; simp (disch:=omega) only [Af,Ag,A0,amL,amT,sA,sB,sF,↓reduceIte])
                   exact ⟨rfl,by simp (disch:=omega) only [A3,Aw,and_self,Af,sF,↓reduceIte],by simp (disch:=omega) only [Bb,A4,Ag,amL,sF,↓reduceIte] ; try exact congrArg AO.cells hpc⟩
               · refine Dy (rem':=[1,3,4,5,6,8,9]) rfl rfl ?_
                 simp (disch:=omega) only [and_self,Ag,amL,amT,sA,sB,sF,↓reduceIte]
                 refine D1 (by kernel_rfl) ?_
                 show EL _ _ _ _ [_,_,_,_,_,_,_] _ _
                 simp (disch:=omega) only [Af,amL,sF,sG,↓reduceIte]
                 try (refine A2 [(2,.ptr 2 0),(3,.ptr 3 0),(4,C4),(5,i64 0),(72,avT t),(10,.ptr 10 0)] (by decide) (Dp (b:=b) (bd:=99)) (Ay rfl) (by decide) (fun res os2 hR hcl2 hlv2=>?_) ; obtain ⟨rfl,rfl⟩:=hR ; simp (disch:=omega) only [A3,Aw,and_self,Af,Ag,amL,sB,sF,sG,↓reduceIte])
                 try (refine Cc (bd:=300) (by decide) (Ek (m:=103) ⟨by simp (disch:=omega) only [Ag,↓reduceIte],by simp (disch:=omega) only [Ag,sF,↓reduceIte]⟩ hval hli) (fun q hq=>by simp (disch:=omega) only []; exact Ay rfl q (by omega)) (by decide) (Eb _ _) ?_ ; rw [← hw] ; simp (disch:=omega) only [Af,Ag,A0,amL,amT,sA,sB,sF,↓reduceIte])
                 exact ⟨rfl,by simp (disch:=omega) only [A3,Aw,and_self,Af,sF,↓reduceIte],by simp (disch:=omega) only [Bb,A4,Ag,amL,sF,↓reduceIte] ; try exact congrArg AO.cells hpc⟩
             · refine Dy (rem':=[0,1,3,4,5,6,8,9]) rfl rfl ?_
               simp (disch:=omega) only [and_self,Ag,amL,amT,sA,sB,sF,↓reduceIte]
               refine D1 (by kernel_rfl) ?_
               show EL _ _ _ _ [_,_,_,_,_,_,_,_] _ _
               simp (disch:=omega) only [Af,Ag,amL,amT,sA,sB,sF,sG,↓reduceIte]
               try (refine A2 [(2,.ptr 2 0),(3,.ptr 3 0),(4,C4),(5,i64 0),(72,avT t),(10,.ptr 10 0)] (by decide) (Dp (b:=b) (bd:=99)) (Ay rfl) (by decide) (fun res os2 hR hcl2 hlv2=>?_) ; obtain ⟨rfl,rfl⟩:=hR ; simp (disch:=omega) only [A3,Aw,and_self,Af,Ag,amL,sB,sF,sG,↓reduceIte])
               try (refine Cc (bd:=300) (by decide) (Ek (m:=103) ⟨by simp (disch:=omega) only [Ag,↓reduceIte],by simp (disch:=omega) only [Ag,sF,↓reduceIte]⟩ hval hli) (fun q hq=>by simp (disch:=omega) only []; exact Ay rfl q (by omega)) (by decide) (Eb _ _) ?_ ; rw [← hw] ; simp (disch:=omega) only [Af,Ag,A0,amL,amT,sA,sB,sF,↓reduceIte])
               exact ⟨rfl,by simp (disch:=omega) only [A3,Aw,and_self,Af,sF,↓reduceIte],by simp (disch:=omega) only [Bb,A4,Ag,amL,sF,↓reduceIte] ; try exact congrArg AO.cells hpc⟩
           · refine Dy (rem':=[0,1,2,3,4,5,6,8,9]) rfl rfl ?_
             simp (disch:=omega) only [and_self,Ag,amL,amT,sA,sB,sF,↓reduceIte]
             refine Fi (ls:=[0,2]) rfl ⟨?_,?_,trivial⟩
             · refine Dy (rem':=[1,2,3,4,5,6,8,9]) rfl rfl ?_
               simp (disch:=omega) only [Af,Ag,amL,amT,sA,sB,sF,↓reduceIte]
               refine Fi (ls:=[1,2]) rfl ⟨?_,?_,trivial⟩
               · refine Dy (rem':=[2,3,4,5,6,8,9]) rfl rfl ?_
                 simp (disch:=omega) only [Af,amL,sG,↓reduceIte]
                 refine A2 [(2,.ptr 2 0),(3,.ptr 3 0),(4,C4),(5,i64 0),(10,.ptr 10 0)] (by decide) (Dp (b:=b) (bd:=99)) (Ay rfl) (by decide) (fun res os2 hR hcl2 hlv2=>?_)
                 obtain ⟨rfl,rfl⟩:=hR
                 simp (disch:=omega) only [A3,Aw,and_self,Af,Ag,amL,sB,sF,↓reduceIte]
                 refine D1 (by kernel_rfl) ?_
                 show EL _ _ _ _ [_,_,_,_,_,_,_] _ _
                 simp (disch:=omega) only [Af,Ag,amL,amT,sA,sB,sF,sG,↓reduceIte]
                 try (refine A2 [(2,.ptr 2 0),(3,.ptr 3 0),(4,C4),(5,i64 0),(72,avT t),(10,.ptr 10 0)] (by decide) (Dp (b:=b) (bd:=99)) (Ay rfl) (by decide) (fun res os2 hR hcl2 hlv2=>?_) ; obtain ⟨rfl,rfl⟩:=hR ; simp (disch:=omega) only [Bi,Bm,ne_eq,Ac,A3,Aw,Bb,A4,and_self,Af,Ag,A0,Bw,B1,Bl,Bk,B4,Ka,Jo,Ld,Int.sub_zero,Int.toNat_natCast,Cb,ld2,B9,amL,amT,sA,sB,sC,sD,sE,sF,sG,sH,sI,sJ,sK,sL,sM,sN,sO,↓reduceIte,reduceCtorEq])
                 try (refine Cc (bd:=300) (by decide) (Ek (m:=103) ⟨by simp (disch:=omega) only [Ag,↓reduceIte],by simp (disch:=omega) only [Ag,sF,↓reduceIte]⟩ hval hli) (fun q hq=>by simp (disch:=omega) only []; exact Ay rfl q (by omega)) (by decide) (Eb _ _) ?_ ; rw [← hw] ; simp (disch:=omega) only [Af,Ag,A0,amL,amT,sA,sB,sF,↓reduceIte])
                 exact ⟨rfl,by simp (disch:=omega) only [A3,Aw,and_self,Af,sF,↓reduceIte],by simp (disch:=omega) only [Bb,A4,Ag,amL,sF,↓reduceIte] ; try exact congrArg AO.cells hpc⟩
               · refine Dy (rem':=[1,3,4,5,6,8,9]) rfl rfl ?_
                 simp (disch:=omega) only [Af,Ag,amL,amT,sA,sB,sF,↓reduceIte]
                 refine D1 (by kernel_rfl) ?_
                 show EL _ _ _ _ [_,_,_,_,_,_,_] _ _
                 simp (disch:=omega) only [Af,amL,sF,sG,↓reduceIte]
                 try (refine A2 [(2,.ptr 2 0),(3,.ptr 3 0),(4,C4),(5,i64 0),(72,avT t),(10,.ptr 10 0)] (by decide) (Dp (b:=b) (bd:=99)) (Ay rfl) (by decide) (fun res os2 hR hcl2 hlv2=>?_) ; obtain ⟨rfl,rfl⟩:=hR ; simp (disch:=omega) only [A3,Aw,and_self,Af,Ag,amL,sB,sF,sG,↓reduceIte])
                 try (refine Cc (bd:=300) (by decide) (Ek (m:=103) ⟨by simp (disch:=omega) only [Ag,↓reduceIte],by simp (disch:=omega) only [Ag,sF,↓reduceIte]⟩ hval hli) (fun q hq=>by simp (disch:=omega) only []; exact Ay rfl q (by omega)) (by decide) (Eb _ _) ?_ ; rw [← hw] ; simp (disch:=omega) only [Af,Ag,A0,amL,amT,sA,sB,sF,↓reduceIte])
                 exact ⟨rfl,by simp (disch:=omega) only [A3,Aw,and_self,Af,sF,↓reduceIte],by simp (disch:=omega) only [Bb,A4,Ag,amL,sF,↓reduceIte] ; try exact congrArg AO.cells hpc⟩
             · refine Dy (rem':=[0,1,3,4,5,6,8,9]) rfl rfl ?_
               simp (disch:=omega) only [Af,Ag,amL,amT,sA,sB,sF,↓reduceIte]
               refine D1 (by kernel_rfl) ?_
               show EL _ _ _ _ [_,_,_,_,_,_,_,_] _ _
               simp (disch:=omega) only [Af,Ag,amL,amT,sA,sB,sF,sG,↓reduceIte]
               try (refine A2 [(2,.ptr 2 0),(3,.ptr 3 0),(4,C4),(5,i64 0),(72,avT t),(10,.ptr 10 0)] (by decide) (Dp (b:=b) (bd:=99)) (Ay rfl) (by decide) (fun res os2 hR hcl2 hlv2=>?_) ; obtain ⟨rfl,rfl⟩:=hR ; simp (disch:=omega) only [A3,Aw,and_self,Af,Ag,amL,sB,sF,sG,↓reduceIte])
               try (refine Cc (bd:=300) (by decide) (Ek (m:=103) ⟨by simp (disch:=omega) only [Ag,↓reduceIte],by simp (disch:=omega) only [Ag,sF,↓reduceIte]⟩ hval hli) (fun q hq=>by simp (disch:=omega) only []; exact Ay rfl q (by omega)) (by decide) (Eb _ _) ?_ ; rw [← hw] ; simp (disch:=omega) only [Af,Ag,A0,amL,amT,sA,sB,sF,↓reduceIte])
               exact ⟨rfl,by simp (disch:=omega) only [A3,Aw,and_self,Af,sF,↓reduceIte],by simp (disch:=omega) only [Bb,A4,Ag,amL,sF,↓reduceIte] ; try exact congrArg AO.cells hpc⟩
         refine hK19 _ ?_
         refine Ab fun K20 hK20=>?_
         refine Ab fun K21 hK21=>?_
         refine Ah ?_
         simp (disch:=omega) only [Af,amL,sA,sF,↓reduceIte]
         refine hK21 _ ?_
         refine Al rfl (fun h=>?_) (fun h=>?_)
         ·first
          | exact Bool.noConfusion h
          |skip
           try simp only [Bool.not_eq_true'] at h
           refine Ab fun K22 hK22=>?_
           refine Ah ?_
           simp (disch:=omega) only [amL,sA]
           refine hK22 _ ?_
           refine Aj ?_
           try simp (disch:=omega) only [Af,amL,sF,↓reduceIte]
           all_goals first | (rw [Dl,if_neg (by assumption)]; done) | (have e9:k=b.vs.length:=(by omega) ; rw [Dl,if_pos hf0,if_pos hli,if_pos hbt,List.take_of_length_le (by simp ; omega),e9,hw] ; done) | (rw [Dl,if_pos hf0,if_pos hli,if_neg (by simpa using h)]; done) | (rw [Dl,if_pos (by omega),if_neg (fun e=>by have:=Dm e; omega)]; done) | (rw [Dl,if_pos (by omega),if_neg (fun e=>by have:=J7 e (k:=k) (by omega); simp_all)]; done) | trace_state
         ·first
          | exact Bool.noConfusion h
          |skip
           try simp only [Bool.not_eq_false'] at h
           refine Am ?_
           refine hK20 _ ?_
           refine Ab fun K23 hK23=>?_
           refine Ah ?_
           simp (disch:=omega) only [amL,sA]
           refine hK23 _ ?_
           refine Ab fun K24 hK24=>?_
           refine Ab fun K25 hK25=>?_
           refine Ah ?_
           have hbt:(Me b t).2=true:=by simpa using h
           have hsm:=(hwo hbt).small
           have hv4:=hval.nv
           simp (disch:=omega) only [and_self,Af,Ag,Bw,B1,Bl,Bk,B4,Int.sub_zero,Int.toNat_natCast,amL,amT,sA,sF,sH,sK,sL,sN,↓reduceIte,reduceCtorEq]
           refine hK25 _ ?_
           refine Ar ?_
           refine Pw 96 3 12 (by decide) rfl rfl ?_
           refine Bg (α:=Nat) (fun k=>⟨T [(2,.ptr 2 0),(12,.own 96 k),(81,.csl 10 0 2 b.vs.length),(82,i64 b.vs.length),(83,i64 (k:Int))],O [(2,.cells (cB b)),(10,.cells (cW w)),(96,.arr 3 ((w.take k).map fun l=>Bc6 (Bgd l)))]⟩) (fun k=>b.vs.length - k) (fun k=>k≤b.vs.length) 0 ?_ ?_ (fun k hx26 K26 hK26=>?_)
           · exact Nat.zero_le _
           · refine Df ?_ ?_ ?_ ?_ <;> (try simp (disch:=omega) only [A3,Aw,Bb,A4,and_self,Af,Ag,amL,sF,sG,↓reduceIte]); all_goals first | rfl | exact Afw _ | trace_state
           have hk:=hx26
           refine Ab fun K27 hK27=>?_
           refine Ah ?_
           simp (disch:=omega) only [Af,amL,amT,sA,sF,↓reduceIte]
           refine hK27 _ ?_
           refine Ab fun K28 hK28=>?_
           refine Al rfl (fun h=>?_) (fun h=>?_)
           ·first
            | exact Bool.noConfusion h
            |skip
             try simp only [decide_eq_true_eq] at h
             refine Am ?_
             refine hK28 _ ?_
             refine Ab fun K29 hK29=>?_
             refine Ar ?_
             refine Ab fun K30 hK30=>?_
             refine Ah ?_
             simp (disch:=omega) only [and_self,Af,Ag,A0,Int.toNat_natCast,Cb,amL,amT,sA,sB,sE,sF,↓reduceIte]
             refine hK30 _ ?_
             refine Ch (by kernel_rfl) (by kernel_rfl) ?_
             simp (disch:=omega) only [Af,Ag,amL,amT,sA,sB,sF,sG,↓reduceIte,reduceCtorEq]
             repeat' first | (refine Ax (by kernel_rfl) rfl (Yw (w.getD k default) (hsm k)) (by first | exact .inl rfl | exact .inr (.inl rfl)) ?_ ; simp (disch:=omega) only [and_self,Af,Ag,B9,amL,amT,sA,sB,sC,sE,sF,↓reduceIte,reduceCtorEq])
             refine hK29 _ ?_
             refine Ah ?_
             simp (disch:=omega) only [Af,amL,amT,sA,sF,↓reduceIte]
             refine hK26 (k+1) _ ?_ ?_ (Df ?_ ?_ ?_ ?_)
             all_goals (try simp (disch:=omega) only [A3,Aw,Bb,A4,and_self,Af,Ag,amL,sF,sG,↓reduceIte])
             all_goals first | omega | exact congrArg (AO.arr 3) (Ac6 default (by omega)) | exact congrArg (AO.arr 3) (Ac6 default (by omega)).symm | exact Afw _ | trace_state
           ·first
            | exact Bool.noConfusion h
            |skip
             try simp only [decide_eq_false_iff_not] at h
             refine Bq ?_
             refine hK24 _ ?_
             refine Ab fun K31 hK31=>?_
             refine Ah ?_
             simp (disch:=omega) only [Af,amL,sA,sF,↓reduceIte]
             refine hK31 _ ?_
             refine Aj ?_
             try simp (disch:=omega) only [Af,Ag,amL,sF,↓reduceIte]
             all_goals first | (rw [Dl,if_neg (by assumption)]; done) | (have e9:k=b.vs.length:=(by omega) ; rw [Dl,if_pos hf0,if_pos hli,if_pos hbt,List.take_of_length_le (by simp ; omega),e9,hw] ; done) | (rw [Dl,if_pos hf0,if_pos hli,if_neg (by simpa using h)]; done) | (rw [Dl,if_pos (by omega),if_neg (fun e=>by have:=Dm e; omega)]; done) | (rw [Dl,if_pos (by omega),if_neg (fun e=>by have:=J7 e (k:=k) (by omega); simp_all)]; done) | trace_state
section
variable {P:Program} {r:RB} {N:Nat} {K:St→Prop} {st:St}
theorem Aey {o:Oper} {t u:TypeId} {e:TypeId} {x:Operand} (ho:o.op=.binOp .eql t x (.const (.slice none 0 0)) u) (hd:∀ k,o.dst=some k→k < N) (ht:(Aa P t).k=.sl e) (hx:ev st.t x=C4) (h:K (st.put o.dst (bl true))):B2 P r N o st K:=by
  intro B S θ M w a Q hs
  refine ⟨fun _ _=>trivial,?_⟩
  rw [Oper.semAt_eq _ _ _ (by rw [ho]; intro c h; cases h)]
  have hv:a.eval x=.slice none 0 0:=by
    have hr:=Ao hs x
    rw [hx] at hr
    generalize a.eval x=v at hr
    cases hr with
    | p _ _ hp=>cases hp; rfl
  have hrun:(execOp a.eval o).run P w=.ok (.value (.bool true)) w:=by
    simp only [execOp,ho,hv]
    refine Ku ?_
    simp [Act.eval,eqGuard,binOp,run_equal_slice_nil w t e none 0 0 (D2 ht)]
  rw [hrun]
  exact ⟨_,h,(Adv.put hs hd (.p _ _ (.val _ rfl)) (AV.lives_p _ _)).toM,by cases o.dst <;> rfl⟩
theorem N4 {Q:AEx→St→Prop} {id d0 d1 i:Nat} {t u e ty0 ty1:TypeId} {pos0 pos1:String} {af0 af1:Array Edge} (h0:d0 < N) (h1:d1 < N) (ht:(Aa P t).k=.sl e) (hx:st.t i=C4)
    (h:Q .normal ((st.put (some d0) (st.t i)).put (some d1) (bl true))) :
    AWP P r N (.region id [(⟨some d0,.move (.tmp i),ty0,pos0,af0,none⟩:Oper),⟨some d1,.binOp .eql t (.tmp d0) (.const (.slice none 0 0)) u,ty1,pos1,af1,none⟩].toArray false) st Q:=by
  refine C1 (AL.step (Fd ?_))
  rw [Agm]
  refine ⟨by simpa using h0,AL.step (Aey rfl (fun k hk=>by cases hk; exact h1) ht (x:=.tmp d0) ?_ (AL.nil h))⟩
  show (st.put (some d0) (st.t i)).t d0=C4
  have:(st.put (some d0) (st.t i)).t d0=st.t i:=by simp [St.put,upd]
  rw [this]; exact hx
end
theorem Aph (es:List (List PV)) (hk:(es.all fun c=>decide (c.length=1))=true) (hv:(es.all fun e=>e.all PV.isVal)=true) (hl:es.length < 1000000):H3 Try.prog 179 [.p (.sl es)] 1 es:=by
  refine Kn (v:=[]) (q:=[]) (N:=8) (i:=2) Try.func179 rfl rfl rfl rfl ?_
  refine Ab fun K1 hK1=>?_
  refine Ah ?_
  simp (disch:=omega) only [amL,sA]
  refine hK1 _ ?_
  refine Ab fun K2 hK2=>?_
  refine Ab fun K3 hK3=>?_
  refine Q6 (e:=3) (by decide) (by decide) (by simp only [amT]) rfl (fun b hb=>?_)
  simp (disch:=omega) only [amL,↓reduceIte,reduceCtorEq]
  refine hK3 _ ?_
  refine Al rfl (fun h=>?_) (fun h=>?_)
  ·first
   | exact Bool.noConfusion h
   |skip
    try simp only [Bool.not_eq_true',decide_eq_true_eq,decide_eq_false_iff_not,Bool.and_eq_true,Bool.not_eq_false',Bool.not_not,decide_not,Bool.not_true,Bool.not_false] at h
    refine Ab fun K4 hK4=>?_
    refine Ah ?_
    simp (disch:=omega) only [amL,sA]
    refine hK4 _ ?_
    refine Aj ?_
    try simp (disch:=omega) only [Ea,amL,↓reduceIte]
    first | ((have e:es=[]:=by have:=hb h; simpa using this); subst e; rfl) | exact Kg rfl (by simp) hv | trace_state
  ·first
   | exact Bool.noConfusion h
   |skip
    try simp only [Bool.not_eq_true',decide_eq_true_eq,decide_eq_false_iff_not,Bool.and_eq_true,Bool.not_eq_false',Bool.not_not,decide_not,Bool.not_true,Bool.not_false] at h
    refine Am ?_
    refine hK2 _ ?_
    refine Ab fun K5 hK5=>?_
    refine Ah ?_
    simp (disch:=omega) only [hk,amL,amT,sA,sF,↓reduceIte,reduceCtorEq]
    refine hK5 _ ?_
    refine Aj ?_
    try simp (disch:=omega) only [Ea,amL,↓reduceIte]
    first | ((have e:es=[]:=by have:=hb h; simpa using this); subst e; rfl) | exact Kg rfl (by simp) hv | trace_state
theorem Ade (es:List (List PV)) (hk:(es.all fun c=>decide (c.length=5))=true) (hv:(es.all fun e=>e.all PV.isVal)=true) (hl:es.length < 1000000):H3 Try.prog 90 [.p (.sl es)] 5 es:=by
  refine Kn (v:=[]) (q:=[]) (N:=8) (i:=2) Try.func90 rfl rfl rfl rfl ?_
  refine Ab fun K1 hK1=>?_
  refine Ah ?_
  simp (disch:=omega) only [amL,sA]
  refine hK1 _ ?_
  refine Ab fun K2 hK2=>?_
  refine Ab fun K3 hK3=>?_
  refine Q6 (e:=58) (by decide) (by decide) (by simp only [amT]) rfl (fun b hb=>?_)
  simp (disch:=omega) only [amL,↓reduceIte,reduceCtorEq]
  refine hK3 _ ?_
  refine Al rfl (fun h=>?_) (fun h=>?_)
  ·first
   | exact Bool.noConfusion h
   |skip
    try simp only [Bool.not_eq_true',decide_eq_true_eq,decide_eq_false_iff_not,Bool.and_eq_true,Bool.not_eq_false',Bool.not_not,decide_not,Bool.not_true,Bool.not_false] at h
    refine Ab fun K4 hK4=>?_
    refine Ah ?_
    simp (disch:=omega) only [amL,sA]
    refine hK4 _ ?_
    refine Aj ?_
    try simp (disch:=omega) only [Ea,amL,↓reduceIte]
    first | ((have e:es=[]:=by have:=hb h; simpa using this); subst e; rfl) | exact Kg rfl (by simp) hv | trace_state
  ·first
   | exact Bool.noConfusion h
   |skip
    try simp only [Bool.not_eq_true',decide_eq_true_eq,decide_eq_false_iff_not,Bool.and_eq_true,Bool.not_eq_false',Bool.not_not,decide_not,Bool.not_true,Bool.not_false] at h
    refine Am ?_
    refine hK2 _ ?_
    refine Ab fun K5 hK5=>?_
    refine Ah ?_
    simp (disch:=omega) only [hk,amL,amT,sA,sB,sF,↓reduceIte,reduceCtorEq]
    refine hK5 _ ?_
    refine Aj ?_
    try simp (disch:=omega) only [Ea,amL,↓reduceIte]
    first | ((have e:es=[]:=by have:=hb h; simpa using this); subst e; rfl) | exact Kg rfl (by simp) hv | trace_state
theorem Aj1:H3 Try.prog 179 [C4] 1 []:=by
  refine Kn (v:=[]) (q:=[]) (N:=8) (i:=2) Try.func179 rfl rfl rfl rfl ?_
  refine Ab fun K1 hK1=>?_
  refine Ah ?_
  simp (disch:=omega) only [amL,sA]
  refine hK1 _ ?_
  refine Ab fun K2 hK2=>?_
  refine Ab fun K3 hK3=>?_
  refine N4 (e:=3) (by decide) (by decide) (by simp only [amT]) rfl ?_
  simp (disch:=omega) only [amL,↓reduceIte,reduceCtorEq]
  refine hK3 _ ?_
  refine Al rfl (fun h=>?_) (fun h=>?_)
  ·first
   | exact Bool.noConfusion h
   |skip
    try simp only [] at h
    refine Ab fun K4 hK4=>?_
    refine Ah ?_
    simp (disch:=omega) only [amL,sA]
    refine hK4 _ ?_
    refine Aj ?_
    try simp (disch:=omega) only [Ea,amL,↓reduceIte]
    first | rfl | trace_state
  ·first
   | exact Bool.noConfusion h
   |skip
    try simp only [Bool.not_eq_true',decide_eq_true_eq,decide_eq_false_iff_not,Bool.and_eq_true,Bool.not_eq_false',Bool.not_not,decide_not,Bool.not_true,Bool.not_false] at h
    refine Am ?_
    refine hK2 _ ?_
    refine Ab fun K5 hK5=>?_
    refine Ah ?_
    simp (disch:=omega) only [Jt,Ea,amL,amT,sA,sB,sC,sD,sE,sF,sG,sH,sI,sJ,sK,sL,sM,sN,sO,↓reduceIte,reduceCtorEq]
    refine hK5 _ ?_
    refine Aj ?_
    try simp (disch:=omega) only [Jt,Ea,amL,amT,sA,sB,sC,sD,sE,sF,sG,sH,sI,sJ,sK,sL,sM,sN,sO,↓reduceIte,reduceCtorEq]
    first | rfl | trace_state
theorem Aj9:H3 Try.prog 90 [C4] 5 []:=by
  refine Kn (v:=[]) (q:=[]) (N:=8) (i:=2) Try.func90 rfl rfl rfl rfl ?_
  refine Ab fun K1 hK1=>?_
  refine Ah ?_
  simp (disch:=omega) only [amL,sA]
  refine hK1 _ ?_
  refine Ab fun K2 hK2=>?_
  refine Ab fun K3 hK3=>?_
  refine N4 (e:=58) (by decide) (by decide) (by simp only [amT]) rfl ?_
  simp (disch:=omega) only [amL,↓reduceIte,reduceCtorEq]
  refine hK3 _ ?_
  refine Al rfl (fun h=>?_) (fun h=>?_)
  ·first
   | exact Bool.noConfusion h
   |skip
    try simp only [] at h
    refine Ab fun K4 hK4=>?_
    refine Ah ?_
    simp (disch:=omega) only [amL,sA]
    refine hK4 _ ?_
    refine Aj ?_
    try simp (disch:=omega) only [Ea,amL,↓reduceIte]
    first | rfl | trace_state
  ·first
   | exact Bool.noConfusion h
   |skip
    try simp only [Bool.not_eq_true',decide_eq_true_eq,decide_eq_false_iff_not,Bool.and_eq_true,Bool.not_eq_false',Bool.not_not,decide_not,Bool.not_true,Bool.not_false] at h
    refine Am ?_
    refine hK2 _ ?_
    refine Ab fun K5 hK5=>?_
    refine Ah ?_
    simp (disch:=omega) only [Jt,Ea,amL,amT,sA,sB,sC,sD,sE,sF,sG,sH,sI,sJ,sK,sL,sM,sN,sO,↓reduceIte,reduceCtorEq]
    refine hK5 _ ?_
    refine Aj ?_
    try simp (disch:=omega) only [Jt,Ea,amL,amT,sA,sB,sC,sD,sE,sF,sG,sH,sI,sJ,sK,sL,sM,sN,sO,↓reduceIte,reduceCtorEq]
    first | rfl | trace_state
end AM.Try
end
/- What closed runs go by: the types, the functions that share objects, slices.Clone, the map, equality. -/
section
namespace AM.Try
open Go AM AM.Wort Go.Proofs
set_option maxRecDepth 100000
def Az4:List (Option TI)→Nat→Option TI
 | [],_=>none
 | x :: _,0=>x
 | _ :: l,i+1=>Az4 l i
def Bct:List (Option TI):=[none,some ⟨.other,1,8,[.nilFunc]⟩,some ⟨.int .i64,1,8,[.int .i64 0]⟩,some ⟨.int .i64,1,8,[.int .i64 0]⟩,some ⟨.bool,1,1,[.bool false]⟩,some ⟨.int .u8,1,1,[.int .u8 0]⟩,some ⟨.int .u8,1,1,[.int .u8 0]⟩,some ⟨.struct [(0,2),(1,3),(2,4),(3,6)],4,24,[.int .i64 0,.int .i64 0,.bool false,.int .u8 0]⟩,some ⟨.struct [(0,2),(1,3),(2,4),(3,6)],4,24,[.int .i64 0,.int .i64 0,.bool false,.int .u8 0]⟩,none,none,none,some ⟨.int .u64,1,8,[.int .u64 0]⟩,none,none,some ⟨.other,1,8,[.pointer none]⟩,some ⟨.other,1,8,[.pointer none]⟩,some ⟨.other,1,8,[.pointer none]⟩,some ⟨.struct [(0,17)],1,8,[.pointer none]⟩,some ⟨.struct [(0,17)],1,8,[.pointer none]⟩,some ⟨.other,1,16,[.nilIface]⟩,some ⟨.int .i32,1,4,[.int .i32 0]⟩,some ⟨.sl 3,1,24,[.slice none 0 0]⟩,some ⟨.sl 22,1,24,[.slice none 0 0]⟩,some ⟨.struct [(0,22),(1,22),(2,23)],3,72,[.slice none 0 0,.slice none 0 0,.slice none 0 0]⟩,some ⟨.struct [(0,22),(1,22),(2,23)],3,72,[.slice none 0 0,.slice none 0 0,.slice none 0 0]⟩,some ⟨.sl 36,1,24,[.slice none 0 0]⟩,some ⟨.struct [(0,25),(3,3),(4,26)],5,104,[.slice none 0 0,.slice none 0 0,.slice none 0 0,.int .i64 0,.slice none 0 0]⟩,some ⟨.struct [(0,25),(3,3),(4,26)],5,104,[.slice none 0 0,.slice none 0 0,.slice none 0 0,.int .i64 0,.slice none 0 0]⟩,some ⟨.other,1,8,[.nilFunc]⟩,some ⟨.other,1,8,[.nilFunc]⟩,some ⟨.other,1,8,[.nilFunc]⟩,some ⟨.other,1,8,[.pointer none]⟩,some ⟨.struct [(0,3),(1,3)],2,16,[.int .i64 0,.int .i64 0]⟩,some ⟨.struct [(0,3),(1,3)],2,16,[.int .i64 0,.int .i64 0]⟩,some ⟨.struct [(0,3),(1,34),(3,34)],5,40,[.int .i64 0,.int .i64 0,.int .i64 0,.int .i64 0,.int .i64 0]⟩,some ⟨.struct [(0,3),(1,34),(3,34)],5,40,[.int .i64 0,.int .i64 0,.int .i64 0,.int .i64 0,.int .i64 0]⟩,some ⟨.sl 52,1,24,[.slice none 0 0]⟩,some ⟨.int .i64,1,8,[.int .i64 0]⟩,none,some ⟨.other,1,8,[.nilFunc]⟩,some ⟨.struct [(0,22),(1,22),(2,23)],3,72,[.slice none 0 0,.slice none 0 0,.slice none 0 0]⟩,some ⟨.sl 146,1,24,[.slice none 0 0]⟩,some ⟨.struct [(0,41),(3,3),(4,42)],5,104,[.slice none 0 0,.slice none 0 0,.slice none 0 0,.int .i64 0,.slice none 0 0]⟩,some ⟨.struct [(0,41),(3,3),(4,42)],5,104,[.slice none 0 0,.slice none 0 0,.slice none 0 0,.int .i64 0,.slice none 0 0]⟩,some ⟨.other,1,8,[.nilFunc]⟩,some ⟨.sl 56,1,24,[.slice none 0 0]⟩,some ⟨.sl 58,1,24,[.slice none 0 0]⟩,some ⟨.struct [(0,46),(1,47)],2,48,[.slice none 0 0,.slice none 0 0]⟩,some ⟨.struct [(0,46),(1,47)],2,48,[.slice none 0 0,.slice none 0 0]⟩,some ⟨.struct [(0,22),(1,22),(2,22)],3,72,[.slice none 0 0,.slice none 0 0,.slice none 0 0]⟩,some ⟨.struct [(0,22),(1,22),(2,22)],3,72,[.slice none 0 0,.slice none 0 0,.slice none 0 0]⟩,some ⟨.struct [(0,3),(1,3)],2,16,[.int .i64 0,.int .i64 0]⟩,some ⟨.struct [(0,3),(1,3)],2,16,[.int .i64 0,.int .i64 0]⟩,some ⟨.other,1,8,[.nilFunc]⟩,some ⟨.struct [(0,53),(2,53),(4,3)],5,40,[.int .i64 0,.int .i64 0,.int .i64 0,.int .i64 0,.int .i64 0]⟩,some ⟨.struct [(0,53),(2,53),(4,3)],5,40,[.int .i64 0,.int .i64 0,.int .i64 0,.int .i64 0,.int .i64 0]⟩,some ⟨.struct [(0,3),(1,3),(2,3),(3,53)],5,40,[.int .i64 0,.int .i64 0,.int .i64 0,.int .i64 0,.int .i64 0]⟩,some ⟨.struct [(0,3),(1,3),(2,3),(3,53)],5,40,[.int .i64 0,.int .i64 0,.int .i64 0,.int .i64 0,.int .i64 0]⟩,none,some ⟨.other,1,8,[.nilFunc]⟩,some ⟨.sl 65,1,24,[.slice none 0 0]⟩,none,some ⟨.other,1,8,[.nilFunc]⟩,some ⟨.struct [(0,3),(1,3),(2,3)],3,24,[.int .i64 0,.int .i64 0,.int .i64 0]⟩,some ⟨.struct [(0,3),(1,3),(2,3)],3,24,[.int .i64 0,.int .i64 0,.int .i64 0]⟩,some ⟨.other,1,8,[.nilFunc]⟩,none,some ⟨.other,1,8,[.nilFunc]⟩,some ⟨.other,1,8,[.nilFunc]⟩,some ⟨.struct [(0,3),(1,3)],2,16,[.int .i64 0,.int .i64 0]⟩,some ⟨.struct [(0,3),(1,3)],2,16,[.int .i64 0,.int .i64 0]⟩,some ⟨.sl 71,1,24,[.slice none 0 0]⟩,some ⟨.sl 78,1,24,[.slice none 0 0]⟩,some ⟨.struct [(0,3),(1,3),(2,3),(3,3),(4,72),(5,73)],6,80,[.int .i64 0,.int .i64 0,.int .i64 0,.int .i64 0,.slice none 0 0,.slice none 0 0]⟩,some ⟨.struct [(0,3),(1,3),(2,3),(3,3),(4,72),(5,73)],6,80,[.int .i64 0,.int .i64 0,.int .i64 0,.int .i64 0,.slice none 0 0,.slice none 0 0]⟩,some ⟨.struct [(0,3),(1,3)],2,16,[.int .i64 0,.int .i64 0]⟩,some ⟨.struct [(0,3),(1,3),(2,76),(4,3)],5,40,[.int .i64 0,.int .i64 0,.int .i64 0,.int .i64 0,.int .i64 0]⟩,some ⟨.struct [(0,3),(1,3),(2,76),(4,3)],5,40,[.int .i64 0,.int .i64 0,.int .i64 0,.int .i64 0,.int .i64 0]⟩,some ⟨.other,1,8,[.nilFunc]⟩,some ⟨.sl 90,1,24,[.slice none 0 0]⟩,none,some ⟨.other,1,8,[.nilFunc]⟩,some ⟨.sl 173,1,24,[.slice none 0 0]⟩,some ⟨.sl 175,1,24,[.slice none 0 0]⟩,some ⟨.struct [(0,3),(1,3),(2,3),(3,3),(4,83),(5,84)],6,80,[.int .i64 0,.int .i64 0,.int .i64 0,.int .i64 0,.slice none 0 0,.slice none 0 0]⟩,some ⟨.struct [(0,3),(1,3),(2,3),(3,3),(4,83),(5,84)],6,80,[.int .i64 0,.int .i64 0,.int .i64 0,.int .i64 0,.slice none 0 0,.slice none 0 0]⟩,some ⟨.other,1,8,[.nilFunc]⟩,none,some ⟨.other,1,8,[.nilFunc]⟩,some ⟨.struct [(0,3),(1,3)],2,16,[.int .i64 0,.int .i64 0]⟩,some ⟨.struct [(0,3),(1,3)],2,16,[.int .i64 0,.int .i64 0]⟩,some ⟨.sl 91,1,24,[.slice none 0 0]⟩,some ⟨.sl 53,1,24,[.slice none 0 0]⟩,some ⟨.other,1,8,[.nilFunc]⟩,some ⟨.other,1,8,[.nilFunc]⟩,some ⟨.other,1,8,[.nilFunc]⟩,some ⟨.other,1,8,[.nilFunc]⟩,some ⟨.other,1,8,[.nilFunc]⟩,some ⟨.other,1,8,[.nilFunc]⟩,some ⟨.other,1,8,[.nilFunc]⟩,some ⟨.other,1,8,[.nilFunc]⟩,some ⟨.other,1,8,[.nilFunc]⟩,some ⟨.other,1,8,[.nilFunc]⟩,none,some ⟨.other,1,8,[.nilFunc]⟩,some ⟨.other,1,8,[.nilFunc]⟩,some ⟨.other,1,8,[.nilFunc]⟩,some ⟨.other,1,8,[.nilFunc]⟩,some ⟨.other,1,8,[.nilFunc]⟩,some ⟨.other,1,8,[.nilFunc]⟩,some ⟨.struct [(0,3),(1,53),(3,53)],5,40,[.int .i64 0,.int .i64 0,.int .i64 0,.int .i64 0,.int .i64 0]⟩,some ⟨.struct [(0,3),(1,53),(3,53)],5,40,[.int .i64 0,.int .i64 0,.int .i64 0,.int .i64 0,.int .i64 0]⟩,some ⟨.sl 112,1,24,[.slice none 0 0]⟩,some ⟨.other,1,8,[.nilFunc]⟩,some ⟨.sl 139,1,24,[.slice none 0 0]⟩,none,some ⟨.other,1,8,[.nilFunc]⟩,some ⟨.other,1,8,[.nilFunc]⟩,some ⟨.other,1,8,[.nilFunc]⟩,some ⟨.sl 129,1,24,[.slice none 0 0]⟩,some ⟨.sl 132,1,24,[.slice none 0 0]⟩,some ⟨.struct [(0,120),(1,121)],2,48,[.slice none 0 0,.slice none 0 0]⟩,some ⟨.struct [(0,120),(1,121)],2,48,[.slice none 0 0,.slice none 0 0]⟩,some ⟨.struct [(0,3),(1,91),(3,91)],5,40,[.int .i64 0,.int .i64 0,.int .i64 0,.int .i64 0,.int .i64 0]⟩,some ⟨.struct [(0,3),(1,91),(3,91)],5,40,[.int .i64 0,.int .i64 0,.int .i64 0,.int .i64 0,.int .i64 0]⟩,some ⟨.other,1,8,[.nilFunc]⟩,some ⟨.other,1,8,[.pointer none]⟩,some ⟨.struct [(0,91),(2,91),(4,3)],5,40,[.int .i64 0,.int .i64 0,.int .i64 0,.int .i64 0,.int .i64 0]⟩,some ⟨.struct [(0,91),(2,91),(4,3)],5,40,[.int .i64 0,.int .i64 0,.int .i64 0,.int .i64 0,.int .i64 0]⟩,some ⟨.other,1,8,[.pointer none]⟩,some ⟨.struct [(0,3),(1,3),(2,3),(3,91)],5,40,[.int .i64 0,.int .i64 0,.int .i64 0,.int .i64 0,.int .i64 0]⟩,some ⟨.struct [(0,3),(1,3),(2,3),(3,91)],5,40,[.int .i64 0,.int .i64 0,.int .i64 0,.int .i64 0,.int .i64 0]⟩,some ⟨.other,1,8,[.nilFunc]⟩,some ⟨.other,1,8,[.nilFunc]⟩,some ⟨.other,1,8,[.nilFunc]⟩,some ⟨.sl 125,1,24,[.slice none 0 0]⟩,some ⟨.other,1,8,[.nilFunc]⟩,some ⟨.struct [(0,53),(2,53),(4,53)],6,48,[.int .i64 0,.int .i64 0,.int .i64 0,.int .i64 0,.int .i64 0,.int .i64 0]⟩,some ⟨.struct [(0,53),(2,53),(4,53)],6,48,[.int .i64 0,.int .i64 0,.int .i64 0,.int .i64 0,.int .i64 0,.int .i64 0]⟩,some ⟨.other,1,8,[.nilFunc]⟩,some ⟨.other,1,8,[.nilFunc]⟩,some ⟨.other,1,8,[.nilFunc]⟩,some ⟨.other,1,8,[.nilFunc]⟩,some ⟨.other,1,8,[.nilFunc]⟩,some ⟨.struct [(0,3),(1,52),(3,52)],5,40,[.int .i64 0,.int .i64 0,.int .i64 0,.int .i64 0,.int .i64 0]⟩,some ⟨.struct [(0,3),(1,52),(3,52)],5,40,[.int .i64 0,.int .i64 0,.int .i64 0,.int .i64 0,.int .i64 0]⟩,some ⟨.other,1,8,[.pointer none]⟩,none,some ⟨.other,1,8,[.nilFunc]⟩,some ⟨.arr 6 3,6,48,[.int .i64 0,.int .i64 0,.int .i64 0,.int .i64 0,.int .i64 0,.int .i64 0]⟩,some ⟨.arr 6 3,6,48,[.int .i64 0,.int .i64 0,.int .i64 0,.int .i64 0,.int .i64 0,.int .i64 0]⟩,some ⟨.struct [(0,44),(5,37),(6,151),(12,151)],18,224,[.slice none 0 0,.slice none 0 0,.slice none 0 0,.int .i64 0,.slice none 0 0,.slice none 0 0,.int .i64 0,.int .i64 0,.int .i64 0,.int .i64 0,.int .i64 0,.int .i64 0,.int .i64 0,.int .i64 0,.int .i64 0,.int .i64 0,.int .i64 0,.int .i64 0]⟩,some ⟨.struct [(0,44),(5,37),(6,151),(12,151)],18,224,[.slice none 0 0,.slice none 0 0,.slice none 0 0,.int .i64 0,.slice none 0 0,.slice none 0 0,.int .i64 0,.int .i64 0,.int .i64 0,.int .i64 0,.int .i64 0,.int .i64 0,.int .i64 0,.int .i64 0,.int .i64 0,.int .i64 0,.int .i64 0,.int .i64 0]⟩,some ⟨.other,1,8,[.nilFunc]⟩,some ⟨.other,1,8,[.nilFunc]⟩,some ⟨.other,1,8,[.nilFunc]⟩,some ⟨.other,1,8,[.nilFunc]⟩,some ⟨.struct [(0,22),(1,3)],2,32,[.slice none 0 0,.int .i64 0]⟩,some ⟨.struct [(0,22),(1,3)],2,32,[.slice none 0 0,.int .i64 0]⟩,some ⟨.other,1,8,[.nilFunc]⟩,some ⟨.other,1,8,[.nilFunc]⟩,some ⟨.other,1,8,[.nilFunc]⟩,some ⟨.struct [(0,3),(1,3)],2,16,[.int .i64 0,.int .i64 0]⟩,some ⟨.struct [(0,3),(1,3)],2,16,[.int .i64 0,.int .i64 0]⟩,some ⟨.arr 4 164,8,64,[.int .i64 0,.int .i64 0,.int .i64 0,.int .i64 0,.int .i64 0,.int .i64 0,.int .i64 0,.int .i64 0]⟩,some ⟨.arr 4 164,8,64,[.int .i64 0,.int .i64 0,.int .i64 0,.int .i64 0,.int .i64 0,.int .i64 0,.int .i64 0,.int .i64 0]⟩,none,some ⟨.other,1,8,[.pointer none]⟩,some ⟨.other,1,8,[.nilFunc]⟩,some ⟨.other,1,8,[.nilFunc]⟩,some ⟨.sl 164,1,24,[.slice none 0 0]⟩,some ⟨.other,1,8,[.nilFunc]⟩,some ⟨.struct [(0,3),(1,3)],2,16,[.int .i64 0,.int .i64 0]⟩,some ⟨.struct [(0,3),(1,3),(2,90),(4,3)],5,40,[.int .i64 0,.int .i64 0,.int .i64 0,.int .i64 0,.int .i64 0]⟩,some ⟨.struct [(0,3),(1,3),(2,90),(4,3)],5,40,[.int .i64 0,.int .i64 0,.int .i64 0,.int .i64 0,.int .i64 0]⟩,some ⟨.other,1,8,[.nilFunc]⟩,some ⟨.other,1,8,[.nilFunc]⟩,some ⟨.other,1,8,[.nilFunc]⟩,some ⟨.other,1,8,[.nilFunc]⟩,some ⟨.arr 12 3,12,96,[.int .i64 0,.int .i64 0,.int .i64 0,.int .i64 0,.int .i64 0,.int .i64 0,.int .i64 0,.int .i64 0,.int .i64 0,.int .i64 0,.int .i64 0,.int .i64 0]⟩,some ⟨.arr 12 3,12,96,[.int .i64 0,.int .i64 0,.int .i64 0,.int .i64 0,.int .i64 0,.int .i64 0,.int .i64 0,.int .i64 0,.int .i64 0,.int .i64 0,.int .i64 0,.int .i64 0]⟩,some ⟨.other,1,8,[.nilFunc]⟩,some ⟨.other,1,8,[.nilFunc]⟩,some ⟨.other,1,8,[.nilFunc]⟩,some ⟨.other,1,8,[.nilFunc]⟩,some ⟨.other,1,8,[.nilFunc]⟩,some ⟨.other,1,8,[.nilFunc]⟩,some ⟨.other,1,8,[.nilFunc]⟩,some ⟨.other,1,8,[.nilFunc]⟩,some ⟨.other,1,8,[.nilFunc]⟩,some ⟨.other,1,8,[.nilFunc]⟩,some ⟨.other,1,8,[.nilFunc]⟩,some ⟨.other,1,8,[.nilFunc]⟩,some ⟨.mp 3 4,1,8,[.map none]⟩,none,some ⟨.other,1,8,[.nilFunc]⟩,some ⟨.other,1,8,[.nilFunc]⟩,some ⟨.other,1,8,[.nilFunc]⟩,some ⟨.other,1,8,[.nilFunc]⟩,some ⟨.other,1,8,[.nilFunc]⟩,some ⟨.other,1,8,[.nilFunc]⟩,some ⟨.other,1,8,[.nilFunc]⟩,some ⟨.struct [(0,202)],1,8,[.nilFunc]⟩,some ⟨.struct [(0,202)],1,8,[.nilFunc]⟩,some ⟨.arr 3 204,3,24,[.nilFunc,.nilFunc,.nilFunc]⟩,some ⟨.other,1,8,[.nilFunc]⟩,some ⟨.other,1,8,[.pointer none]⟩,none,some ⟨.other,1,8,[.nilFunc]⟩,some ⟨.other,1,8,[.nilFunc]⟩,some ⟨.other,1,8,[.nilFunc]⟩,some ⟨.other,1,8,[.nilFunc]⟩,some ⟨.other,1,8,[.nilFunc]⟩,some ⟨.other,1,8,[.nilFunc]⟩,some ⟨.other,1,8,[.nilFunc]⟩,some ⟨.other,1,8,[.nilFunc]⟩,some ⟨.other,1,8,[.nilFunc]⟩,some ⟨.other,1,8,[.pointer none]⟩,some ⟨.other,1,8,[.nilFunc]⟩,some ⟨.other,1,8,[.nilFunc]⟩,some ⟨.other,1,8,[.nilFunc]⟩,some ⟨.other,1,8,[.nilFunc]⟩,some ⟨.other,1,8,[.nilFunc]⟩,some ⟨.struct [(0,22),(1,22),(2,22)],3,72,[.slice none 0 0,.slice none 0 0,.slice none 0 0]⟩,some ⟨.other,1,8,[.nilFunc]⟩,some ⟨.other,1,8,[.nilFunc]⟩,some ⟨.other,1,8,[.nilFunc]⟩,some ⟨.other,1,8,[.nilFunc]⟩,some ⟨.other,1,8,[.nilFunc]⟩,some ⟨.other,1,8,[.nilFunc]⟩,some ⟨.arr 2 3,2,16,[.int .i64 0,.int .i64 0]⟩,none,some ⟨.other,1,8,[.nilFunc]⟩,some ⟨.other,1,8,[.nilFunc]⟩,some ⟨.mp 256 258,1,8,[.map none]⟩,some ⟨.struct [(0,49),(2,235)],3,56,[.slice none 0 0,.slice none 0 0,.map none]⟩,some ⟨.struct [(0,49),(2,235)],3,56,[.slice none 0 0,.slice none 0 0,.map none]⟩,some ⟨.other,1,8,[.nilFunc]⟩,some ⟨.other,1,8,[.nilFunc]⟩,some ⟨.other,1,8,[.nilFunc]⟩,some ⟨.other,1,8,[.nilFunc]⟩,some ⟨.other,1,8,[.nilFunc]⟩,some ⟨.other,1,8,[.nilFunc]⟩,some ⟨.other,1,8,[.nilFunc]⟩,some ⟨.other,1,8,[.nilFunc]⟩,none,some ⟨.other,1,8,[.nilFunc]⟩,some ⟨.other,1,8,[.nilFunc]⟩,some ⟨.other,1,8,[.nilFunc]⟩,some ⟨.other,1,8,[.nilFunc]⟩,some ⟨.other,1,8,[.nilFunc]⟩,some ⟨.other,1,8,[.nilFunc]⟩,some ⟨.other,1,8,[.nilFunc]⟩,some ⟨.other,1,8,[.nilFunc]⟩,some ⟨.struct [(0,58),(5,3),(6,166)],14,112,[.int .i64 0,.int .i64 0,.int .i64 0,.int .i64 0,.int .i64 0,.int .i64 0,.int .i64 0,.int .i64 0,.int .i64 0,.int .i64 0,.int .i64 0,.int .i64 0,.int .i64 0,.int .i64 0]⟩,some ⟨.struct [(0,58),(5,3),(6,166)],14,112,[.int .i64 0,.int .i64 0,.int .i64 0,.int .i64 0,.int .i64 0,.int .i64 0,.int .i64 0,.int .i64 0,.int .i64 0,.int .i64 0,.int .i64 0,.int .i64 0,.int .i64 0,.int .i64 0]⟩,some ⟨.struct [(0,166),(8,4)],9,72,[.int .i64 0,.int .i64 0,.int .i64 0,.int .i64 0,.int .i64 0,.int .i64 0,.int .i64 0,.int .i64 0,.bool false]⟩,some ⟨.struct [(0,166),(8,4)],9,72,[.int .i64 0,.int .i64 0,.int .i64 0,.int .i64 0,.int .i64 0,.int .i64 0,.int .i64 0,.int .i64 0,.bool false]⟩,none,some ⟨.other,1,8,[.nilFunc]⟩,some ⟨.other,1,8,[.nilFunc]⟩,some ⟨.other,1,8,[.nilFunc]⟩,some ⟨.other,1,8,[.nilFunc]⟩,some ⟨.other,1,8,[.nilFunc]⟩,some ⟨.struct [(0,3),(1,3)],2,16,[.int .i64 0,.int .i64 0]⟩,none,some ⟨.other,1,8,[.nilFunc]⟩,some ⟨.other,1,8,[.nilFunc]⟩,some ⟨.other,1,8,[.nilFunc]⟩,some ⟨.other,1,8,[.nilFunc]⟩,some ⟨.other,1,8,[.nilFunc]⟩,some ⟨.other,1,8,[.nilFunc]⟩,some ⟨.struct [(0,272)],1,8,[.nilFunc]⟩,some ⟨.struct [(0,272)],1,8,[.nilFunc]⟩,some ⟨.arr 2 274,2,16,[.nilFunc,.nilFunc]⟩,some ⟨.other,1,8,[.nilFunc]⟩,some ⟨.other,1,8,[.nilFunc]⟩,some ⟨.other,1,8,[.nilFunc]⟩,some ⟨.other,1,8,[.pointer none]⟩,some ⟨.mp 289 3,1,8,[.map none]⟩,some ⟨.struct [(0,86),(6,3),(7,3),(8,280)],9,104,[.int .i64 0,.int .i64 0,.int .i64 0,.int .i64 0,.slice none 0 0,.slice none 0 0,.int .i64 0,.int .i64 0,.map none]⟩,some ⟨.struct [(0,86),(6,3),(7,3),(8,280)],9,104,[.int .i64 0,.int .i64 0,.int .i64 0,.int .i64 0,.slice none 0 0,.slice none 0 0,.int .i64 0,.int .i64 0,.map none]⟩,some ⟨.other,1,8,[.nilFunc]⟩,some ⟨.struct [(0,283)],1,8,[.nilFunc]⟩,some ⟨.struct [(0,283)],1,8,[.nilFunc]⟩,some ⟨.arr 4 285,4,32,[.nilFunc,.nilFunc,.nilFunc,.nilFunc]⟩,some ⟨.other,1,8,[.nilFunc]⟩,some ⟨.struct [(0,175),(5,3)],6,48,[.int .i64 0,.int .i64 0,.int .i64 0,.int .i64 0,.int .i64 0,.int .i64 0]⟩,some ⟨.struct [(0,175),(5,3)],6,48,[.int .i64 0,.int .i64 0,.int .i64 0,.int .i64 0,.int .i64 0,.int .i64 0]⟩,some ⟨.other,1,8,[.nilFunc]⟩,some ⟨.other,1,8,[.nilFunc]⟩,some ⟨.other,1,8,[.pointer none]⟩,some ⟨.other,1,8,[.nilFunc]⟩,some ⟨.other,1,8,[.nilFunc]⟩,some ⟨.other,1,8,[.nilFunc]⟩,some ⟨.other,1,8,[.nilFunc]⟩,some ⟨.other,1,8,[.nilFunc]⟩,some ⟨.other,1,8,[.nilFunc]⟩,some ⟨.other,1,8,[.nilFunc]⟩,some ⟨.other,1,8,[.nilFunc]⟩,some ⟨.other,1,8,[.nilFunc]⟩,some ⟨.other,1,8,[.nilFunc]⟩,some ⟨.other,1,8,[.nilFunc]⟩,some ⟨.other,1,8,[.nilFunc]⟩,some ⟨.other,1,8,[.nilFunc]⟩,some ⟨.other,1,8,[.nilFunc]⟩,some ⟨.other,1,8,[.nilFunc]⟩,some ⟨.other,1,8,[.nilFunc]⟩,some ⟨.other,1,8,[.nilFunc]⟩,some ⟨.other,1,8,[.nilFunc]⟩,some ⟨.other,1,8,[.nilFunc]⟩,some ⟨.struct [(0,3),(1,3),(2,3)],3,24,[.int .i64 0,.int .i64 0,.int .i64 0]⟩,some ⟨.sl 312,1,24,[.slice none 0 0]⟩,none,some ⟨.other,1,8,[.nilFunc]⟩,none,none,some ⟨.arr 0 16,0,0,[]⟩,some ⟨.struct [(0,318)],0,0,[]⟩,some ⟨.struct [(0,318)],0,0,[]⟩,some ⟨.int .u32,1,4,[.int .u32 0]⟩,some ⟨.int .u8,1,1,[.int .u8 0]⟩,some ⟨.int .u8,1,1,[.int .u8 0]⟩,some ⟨.other,1,8,[.nilFunc]⟩,some ⟨.other,1,8,[.pointer none]⟩,some ⟨.int .i32,1,4,[.int .i32 0]⟩,some ⟨.int .i32,1,4,[.int .i32 0]⟩,some ⟨.struct [(0,12),(1,12),(2,321),(3,322),(4,5),(5,5),(6,323),(7,324),(8,325),(9,326),(10,327)],11,48,[.int .u64 0,.int .u64 0,.int .u32 0,.int .u8 0,.int .u8 0,.int .u8 0,.int .u8 0,.nilFunc,.pointer none,.int .i32 0,.int .i32 0]⟩,some ⟨.struct [(0,12),(1,12),(2,321),(3,322),(4,5),(5,5),(6,323),(7,324),(8,325),(9,326),(10,327)],11,48,[.int .u64 0,.int .u64 0,.int .u32 0,.int .u8 0,.int .u8 0,.int .u8 0,.int .u8 0,.nilFunc,.pointer none,.int .i32 0,.int .i32 0]⟩,some ⟨.other,1,8,[.pointer none]⟩]
noncomputable def tyX (t:TypeId):TI:=match Az4 Bct t with
 | some x=>x
 | none=>Aa Try.prog t
def Agz:Nat→List (Option TI)→Prop
 | _,[]=>True
 | i,none :: l=>Agz (i+1) l
 | i,some x :: l=>Aa Try.prog i=x∧Agz (i+1) l
theorem Rx:∀ {l:List (Option TI)} {i t:Nat} {x:TI},Agz i l→Az4 l t=some x→Aa Try.prog (i+t)=x
 | [],_,_,_,_,h=>by cases h
 | none :: l,i,0,_,_,h=>by cases h
 | some y :: l,i,0,x,hk,h=>by cases h; exact hk.1
 | none :: l,i,t+1,x,hk,h=>by have:=Rx (i:=i+1) (t:=t) hk h; rwa [show i+(t+1)=i+1+t by omega]
 | some y :: l,i,t+1,x,hk,h=>by have:=Rx (i:=i+1) (t:=t) hk.2 h; rwa [show i+(t+1)=i+1+t by omega]
theorem Bah:Agz 0 Bct:=⟨ty1,ty2,ty3,ty4,ty5,ty6,ty7,ty8,Bb9,Bcz,Bex,Bcu,Bcm,Bdy,Be8,Bgb,Bet,Bc4,Bec,Bc8,Bfy,Bf6,Bfb,Bdo,Bfl,Bep,Bdm,Bc7,Ber,Be7,Bcq,Bdx,Bcp,Beo,Bd2,Be5,Bgg,Bf2,Bd5,Bgh,Bfw,Bdv,Bee,Bcj,Bdz,Bf0,Bcl,Bc9,Bdn,Be2,Bcx,Bgm,Bf3,Bfd,Bc0,Bd3,Bb8,Be1,Bdd,Bfx,Bf8,Bed,Bea,Bfe,Bcw,Beh,Bda,Bfi,Bem,Bci,Bgk,Bdj,Bfk,Bfm,Bej,Bgl,Bfc,Bdk,Bdu,Bdl,Bgi,Bfv,Bcv,Bc5,Be6,Bft,Bdb,Bf4,Awi,Awo,Awg,Atj,As4,Ayi,Aye,Ay7,Axu,Aus,Aun,Ave,Awa,Axy,Axk,Atl,Avr,Axq,Au8,Axj,Azb,Avn,Axg,Auf,As0,Awm,Atm,Av5,Ax8,Azd,Asy,Awx,Axx,Ayh,Auj,Ay4,Ay2,Aym,Ate,Axv,Aw8,Axl,Awd,Ayx,Ato,Ayb,Ay1,Aw7,Axh,Aup,As1,Axc,Avo,Av8,Au0,Ax2,Auo,Avb,Avp,As5,Axb,Avx,Auc,Ag3,Awt,Aue,Asw,As6,Aw5,Avz,Ax0,Ayu,At2,Avl,Ayq,Awq,Ayc,Au6,Aw0,Awy,Awz,Atc,Aug,Aum,As8,Axm,Atx,Aud,Azk,Auk,Aya,Avt,Avh,Awb,Axi,Ayp,At6,Aw1,Azj,Ayf,Aw2,As7,Av6,Ayo,Atz,Atb,Aut,Av3,Asv,Aux,Asu,At9,Ayk,Avu,Ax3,At3,Av1,Avd,Ati,Auv,Axt,Asx,Azi,Avi,Aw9,Ayz,Avw,As2,Axa,Aua,Ayw,Au7,Ayy,Auq,Ay8,Azg,Ay6,Avf,Aze,Atr,Atv,Atw,Ayn,Azc,Axw,Axe,At7,Aza,Auw,Awl,Ay0,Azn,Atn,Azh,Au3,Aui,Av0,At4,Au5,Axf,Awk,Au9,Azm,Axs,Ayr,Atd,Awj,Aub,Auu,Avg,Avs,Aty,Avk,Axo,Aw3,Avj,Aul,Awh,Atg,Au4,Aw4,Awv,Axr,Att,Awf,Ayg,As3,Ayl,Atp,Axz,Awp,Ayd,Ayt,Atk,Au2,Ata,Ay9,Azl,Ays,Ax4,Axp,Avc,As9,Azf,Av7,Avq,Awr,Awu,At1,Aw6,Ax6,Ax9,Ayj,Ay3,Ath,Atf,Av4,Ava,trivial⟩
theorem Bba (t:TypeId):tyX t=Aa Try.prog t:=by
 unfold tyX
 split
 ·rename_i x h; have:=Rx Bah h; rw [Nat.zero_add] at this; exact this.symm
 ·rfl
def knX (f:Nat) (xs:List AV):Option (Nat × List (List PV)):=match eqN f 179 with
 | true=>go 1 xs
 | false=>match eqN f 90 with
  | true=>go 5 xs
  | false=>none
 where go (k:Nat):List AV→Option (Nat × List (List PV))
 | [.p (.sl es)]=>match (es.all fun c=>eqN c.length k)&&((es.all fun e=>e.all PV.isVal)&&ltN es.length 1000000) with
  | true=>some (k,es)
  | false=>none
 | [.p (.val (.slice none 0 0))]=>some (k,[])
 | _=>none
theorem Az9 (f:Nat) (xs:List AV) (k:Nat) (es:List (List PV)) (h:knX f xs=some (k,es)):H3 Try.prog f xs k es:=by
 have key:∀ (k0:Nat),knX.go k0 xs=some (k,es)→k=k0∧((xs=[.p (.sl es)]∧(es.all fun c=>decide (c.length=k0))=true∧(es.all fun e=>e.all PV.isVal)=true∧es.length < 1000000)∨(xs=[C4]∧es=[])):=by
  intro k0 h
  unfold knX.go at h
  split at h
  ·split at h
   ·rename_i hc
    cases h
    simp only [Bool.and_eq_true,F5] at hc
    refine ⟨rfl,.inl ⟨rfl,?_,hc.2.1,hc.2.2⟩⟩
    rw [List.all_eq_true] at *
    exact fun c hm=>decide_eq_true (Bn.1 (hc.1 c hm))
   ·cases h
  ·cases h; exact ⟨rfl,.inr ⟨rfl,rfl⟩⟩
  ·cases h
 unfold knX at h
 split at h
 ·rename_i hf; rw [Bn] at hf; subst hf
  obtain ⟨rfl,⟨rfl,h1,h2,h3⟩ | ⟨rfl,rfl⟩⟩:=key 1 h
  ·exact Aph es h1 h2 h3
  ·exact Aj1
 ·split at h
  ·rename_i hf; rw [Bn] at hf; subst hf
   obtain ⟨rfl,⟨rfl,h1,h2,h3⟩ | ⟨rfl,rfl⟩⟩:=key 5 h
   ·exact Ade es h1 h2 h3
   ·exact Aj9
  ·cases h
def mzX:Value:=Ap1
def mtX (t:Nat):Option (Nat × Value):=match eqN t 235 with
 | true=>some (14,mzX)
 | false=>none
def qeX (t n:Nat):Bool:=eqN t 166&&eqN n 8
theorem Bb7:M9 Try.prog 166 8:=R2 (by kernel_rfl)
def cfX (N id:Nat):Option (Option Nat × List Cf):=match eqN N 69&&eqN id 706 with
 | true=>some (none,[.sto [11] 8,.sto [67] 8])
 | false=>match eqN N 54&&eqN id 711 with
 | true=>some (some 9,[.app [4]])
 | false=>match eqN N 52&&eqN id 714 with
 | true=>some (none,[])
 | false=>match eqN N 54&&eqN id 208 with
 | true=>some (some 8,[])
 | false=>match eqN N 54&&eqN id 715 with
 | true=>some (some 9,[.app [6],.app [13,41]])
 | false=>none
def lvX (_ _:Nat):Option (List Nat):=none
noncomputable def rpX:RP:=⟨tyX,[61,62,80,84,87,88,93,94,99,101,103,116,129,132,134,140,143,147,149,159,166,174,175,176,181,182,187,193,197,199,209,211,215,218],[87],[178],knX,mtX,qeX,cfX,lvX⟩
theorem Ru:Pk Try.prog rpX where
 ty:=Bba
 mix:=rfl
 kn:=Az9
 mt t n z h:=by
  have h:mtX t=some (n,z):=h
  unfold mtX at h
  split at h
  ·rename_i he; rw [Bn] at he; subst he; cases h
   exact ⟨256,258,by simp only [amT],Axn,rfl,Azo⟩
  ·cases h
 qe t n h:=by
  have h:qeX t n=true:=h
  unfold qeX at h
  rw [Bool.and_eq_true,Bn,Bn] at h
  obtain ⟨rfl,rfl⟩:=h
  exact Bb7
end AM.Try
end
