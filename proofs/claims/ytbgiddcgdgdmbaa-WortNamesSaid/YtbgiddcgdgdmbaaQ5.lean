/- Lemmas for the proof: an abstract machine over the program's form in Lean, and the program's functions walked on it. -/
import Derived.Test.YtbgiddcgdgdmbaaQ4
import Derived.Test.YtbgiddcgdgdmbaaProg
import Derived.KernelRfl
/- What the program's tables say of its types, read off once. -/
section
namespace AM.Try
open Go AM Go.Proofs
theorem ty1:Ab Try.prog 1=⟨.other,1,8,[.nilFunc]⟩:=by kernel_rfl
theorem ty2:Ab Try.prog 2=⟨.int .i64,1,8,[.int .i64 0]⟩:=by kernel_rfl
theorem ty3:Ab Try.prog 3=⟨.int .i64,1,8,[.int .i64 0]⟩:=by kernel_rfl
theorem ty4:Ab Try.prog 4=⟨.bool,1,1,[.bool false]⟩:=by kernel_rfl
theorem ty5:Ab Try.prog 5=⟨.int .u8,1,1,[.int .u8 0]⟩:=by kernel_rfl
theorem ty6:Ab Try.prog 6=⟨.int .u8,1,1,[.int .u8 0]⟩:=by kernel_rfl
theorem ty7:Ab Try.prog 7=⟨.struct [(0,2),(1,3),(2,4),(3,6)],4,24,[.int .i64 0,.int .i64 0,.bool false,.int .u8 0]⟩:=by kernel_rfl
theorem ty8:Ab Try.prog 8=⟨.struct [(0,2),(1,3),(2,4),(3,6)],4,24,[.int .i64 0,.int .i64 0,.bool false,.int .u8 0]⟩:=by kernel_rfl
theorem Bcz:Ab Try.prog 12=⟨.int .u64,1,8,[.int .u64 0]⟩:=by kernel_rfl
theorem Bdf:Ab Try.prog 15=⟨.other,1,8,[.pointer none]⟩:=by kernel_rfl
theorem Bdj:Ab Try.prog 16=⟨.other,1,8,[.pointer none]⟩:=by kernel_rfl
theorem Bel:Ab Try.prog 17=⟨.other,1,8,[.pointer none]⟩:=by kernel_rfl
theorem Bc5:Ab Try.prog 18=⟨.struct [(0,17)],1,8,[.pointer none]⟩:=by kernel_rfl
theorem Bc0:Ab Try.prog 19=⟨.struct [(0,17)],1,8,[.pointer none]⟩:=by kernel_rfl
theorem Bgj:Ab Try.prog 20=⟨.other,1,16,[.nilIface]⟩:=by kernel_rfl
theorem Bdm:Ab Try.prog 21=⟨.int .i32,1,4,[.int .i32 0]⟩:=by kernel_rfl
theorem Bc2:Ab Try.prog 22=⟨.sl 3,1,24,[.slice none 0 0]⟩:=by kernel_rfl
theorem Bfh:Ab Try.prog 23=⟨.sl 22,1,24,[.slice none 0 0]⟩:=by kernel_rfl
theorem Bdq:Ab Try.prog 24=⟨.struct [(0,22),(1,22),(2,23)],3,72,[.slice none 0 0,.slice none 0 0,.slice none 0 0]⟩:=by kernel_rfl
theorem Bdw:Ab Try.prog 25=⟨.struct [(0,22),(1,22),(2,23)],3,72,[.slice none 0 0,.slice none 0 0,.slice none 0 0]⟩:=by kernel_rfl
theorem Bed:Ab Try.prog 26=⟨.sl 36,1,24,[.slice none 0 0]⟩:=by kernel_rfl
theorem Bdg:Ab Try.prog 27=⟨.struct [(0,25),(3,3),(4,26)],5,104,[.slice none 0 0,.slice none 0 0,.slice none 0 0,.int .i64 0,.slice none 0 0]⟩:=by kernel_rfl
theorem Bcx:Ab Try.prog 28=⟨.struct [(0,25),(3,3),(4,26)],5,104,[.slice none 0 0,.slice none 0 0,.slice none 0 0,.int .i64 0,.slice none 0 0]⟩:=by kernel_rfl
theorem Bdr:Ab Try.prog 29=⟨.other,1,8,[.nilFunc]⟩:=by kernel_rfl
theorem Bgc:Ab Try.prog 30=⟨.other,1,8,[.nilFunc]⟩:=by kernel_rfl
theorem Bds:Ab Try.prog 31=⟨.other,1,8,[.nilFunc]⟩:=by kernel_rfl
theorem Bfe:Ab Try.prog 32=⟨.other,1,8,[.pointer none]⟩:=by kernel_rfl
theorem Bf3:Ab Try.prog 33=⟨.struct [(0,3),(1,3)],2,16,[.int .i64 0,.int .i64 0]⟩:=by kernel_rfl
theorem Bf9:Ab Try.prog 34=⟨.struct [(0,3),(1,3)],2,16,[.int .i64 0,.int .i64 0]⟩:=by kernel_rfl
theorem Be3:Ab Try.prog 35=⟨.struct [(0,3),(1,34),(3,34)],5,40,[.int .i64 0,.int .i64 0,.int .i64 0,.int .i64 0,.int .i64 0]⟩:=by kernel_rfl
theorem Bdv:Ab Try.prog 36=⟨.struct [(0,3),(1,34),(3,34)],5,40,[.int .i64 0,.int .i64 0,.int .i64 0,.int .i64 0,.int .i64 0]⟩:=by kernel_rfl
theorem Bfn:Ab Try.prog 37=⟨.sl 52,1,24,[.slice none 0 0]⟩:=by kernel_rfl
theorem Bd9:Ab Try.prog 38=⟨.int .i64,1,8,[.int .i64 0]⟩:=by kernel_rfl
theorem Bek:Ab Try.prog 40=⟨.other,1,8,[.nilFunc]⟩:=by kernel_rfl
theorem Bdy:Ab Try.prog 41=⟨.struct [(0,22),(1,22),(2,23)],3,72,[.slice none 0 0,.slice none 0 0,.slice none 0 0]⟩:=by kernel_rfl
theorem Bei:Ab Try.prog 42=⟨.sl 146,1,24,[.slice none 0 0]⟩:=by kernel_rfl
theorem Bcg:Ab Try.prog 43=⟨.struct [(0,41),(3,3),(4,42)],5,104,[.slice none 0 0,.slice none 0 0,.slice none 0 0,.int .i64 0,.slice none 0 0]⟩:=by kernel_rfl
theorem Bcl:Ab Try.prog 44=⟨.struct [(0,41),(3,3),(4,42)],5,104,[.slice none 0 0,.slice none 0 0,.slice none 0 0,.int .i64 0,.slice none 0 0]⟩:=by kernel_rfl
theorem Bcy:Ab Try.prog 45=⟨.other,1,8,[.nilFunc]⟩:=by kernel_rfl
theorem Bdk:Ab Try.prog 46=⟨.sl 56,1,24,[.slice none 0 0]⟩:=by kernel_rfl
theorem Bfk:Ab Try.prog 47=⟨.sl 58,1,24,[.slice none 0 0]⟩:=by kernel_rfl
theorem Bc1:Ab Try.prog 48=⟨.struct [(0,46),(1,47)],2,48,[.slice none 0 0,.slice none 0 0]⟩:=by kernel_rfl
theorem Bd2:Ab Try.prog 49=⟨.struct [(0,46),(1,47)],2,48,[.slice none 0 0,.slice none 0 0]⟩:=by kernel_rfl
theorem Bf1:Ab Try.prog 50=⟨.struct [(0,22),(1,22),(2,22)],3,72,[.slice none 0 0,.slice none 0 0,.slice none 0 0]⟩:=by kernel_rfl
theorem Bej:Ab Try.prog 51=⟨.struct [(0,22),(1,22),(2,22)],3,72,[.slice none 0 0,.slice none 0 0,.slice none 0 0]⟩:=by kernel_rfl
theorem Be5:Ab Try.prog 52=⟨.struct [(0,3),(1,3)],2,16,[.int .i64 0,.int .i64 0]⟩:=by kernel_rfl
theorem Bb8:Ab Try.prog 53=⟨.struct [(0,3),(1,3)],2,16,[.int .i64 0,.int .i64 0]⟩:=by kernel_rfl
theorem Bdu:Ab Try.prog 54=⟨.other,1,8,[.nilFunc]⟩:=by kernel_rfl
theorem Bcp:Ab Try.prog 55=⟨.struct [(0,53),(2,53),(4,3)],5,40,[.int .i64 0,.int .i64 0,.int .i64 0,.int .i64 0,.int .i64 0]⟩:=by kernel_rfl
theorem Bfp:Ab Try.prog 56=⟨.struct [(0,53),(2,53),(4,3)],5,40,[.int .i64 0,.int .i64 0,.int .i64 0,.int .i64 0,.int .i64 0]⟩:=by kernel_rfl
theorem Bcr:Ab Try.prog 57=⟨.struct [(0,3),(1,3),(2,3),(3,53)],5,40,[.int .i64 0,.int .i64 0,.int .i64 0,.int .i64 0,.int .i64 0]⟩:=by kernel_rfl
theorem Bdn:Ab Try.prog 58=⟨.struct [(0,3),(1,3),(2,3),(3,53)],5,40,[.int .i64 0,.int .i64 0,.int .i64 0,.int .i64 0,.int .i64 0]⟩:=by kernel_rfl
theorem Bf6:Ab Try.prog 60=⟨.other,1,8,[.nilFunc]⟩:=by kernel_rfl
theorem Bda:Ab Try.prog 61=⟨.sl 65,1,24,[.slice none 0 0]⟩:=by kernel_rfl
theorem Bdl:Ab Try.prog 63=⟨.other,1,8,[.nilFunc]⟩:=by kernel_rfl
theorem Bdc:Ab Try.prog 64=⟨.struct [(0,3),(1,3),(2,3)],3,24,[.int .i64 0,.int .i64 0,.int .i64 0]⟩:=by kernel_rfl
theorem Bcb:Ab Try.prog 65=⟨.struct [(0,3),(1,3),(2,3)],3,24,[.int .i64 0,.int .i64 0,.int .i64 0]⟩:=by kernel_rfl
theorem Bcd:Ab Try.prog 66=⟨.other,1,8,[.nilFunc]⟩:=by kernel_rfl
theorem Bff:Ab Try.prog 68=⟨.other,1,8,[.nilFunc]⟩:=by kernel_rfl
theorem Be7:Ab Try.prog 69=⟨.other,1,8,[.nilFunc]⟩:=by kernel_rfl
theorem Bco:Ab Try.prog 70=⟨.struct [(0,3),(1,3)],2,16,[.int .i64 0,.int .i64 0]⟩:=by kernel_rfl
theorem Bfd:Ab Try.prog 71=⟨.struct [(0,3),(1,3)],2,16,[.int .i64 0,.int .i64 0]⟩:=by kernel_rfl
theorem Bea:Ab Try.prog 72=⟨.sl 71,1,24,[.slice none 0 0]⟩:=by kernel_rfl
theorem Bcm:Ab Try.prog 73=⟨.sl 78,1,24,[.slice none 0 0]⟩:=by kernel_rfl
theorem Bf0:Ab Try.prog 74=⟨.struct [(0,3),(1,3),(2,3),(3,3),(4,72),(5,73)],6,80,[.int .i64 0,.int .i64 0,.int .i64 0,.int .i64 0,.slice none 0 0,.slice none 0 0]⟩:=by kernel_rfl
theorem Bde:Ab Try.prog 75=⟨.struct [(0,3),(1,3),(2,3),(3,3),(4,72),(5,73)],6,80,[.int .i64 0,.int .i64 0,.int .i64 0,.int .i64 0,.slice none 0 0,.slice none 0 0]⟩:=by kernel_rfl
theorem Bdi:Ab Try.prog 76=⟨.struct [(0,3),(1,3)],2,16,[.int .i64 0,.int .i64 0]⟩:=by kernel_rfl
theorem Bd0:Ab Try.prog 77=⟨.struct [(0,3),(1,3),(2,76),(4,3)],5,40,[.int .i64 0,.int .i64 0,.int .i64 0,.int .i64 0,.int .i64 0]⟩:=by kernel_rfl
theorem Bgd:Ab Try.prog 78=⟨.struct [(0,3),(1,3),(2,76),(4,3)],5,40,[.int .i64 0,.int .i64 0,.int .i64 0,.int .i64 0,.int .i64 0]⟩:=by kernel_rfl
theorem Bfo:Ab Try.prog 79=⟨.other,1,8,[.nilFunc]⟩:=by kernel_rfl
theorem Bcf:Ab Try.prog 80=⟨.sl 90,1,24,[.slice none 0 0]⟩:=by kernel_rfl
theorem Bfq:Ab Try.prog 82=⟨.other,1,8,[.nilFunc]⟩:=by kernel_rfl
theorem Bfi:Ab Try.prog 83=⟨.sl 173,1,24,[.slice none 0 0]⟩:=by kernel_rfl
theorem Bck:Ab Try.prog 84=⟨.sl 175,1,24,[.slice none 0 0]⟩:=by kernel_rfl
theorem Bey:Ab Try.prog 85=⟨.struct [(0,3),(1,3),(2,3),(3,3),(4,83),(5,84)],6,80,[.int .i64 0,.int .i64 0,.int .i64 0,.int .i64 0,.slice none 0 0,.slice none 0 0]⟩:=by kernel_rfl
theorem Bcs:Ab Try.prog 86=⟨.struct [(0,3),(1,3),(2,3),(3,3),(4,83),(5,84)],6,80,[.int .i64 0,.int .i64 0,.int .i64 0,.int .i64 0,.slice none 0 0,.slice none 0 0]⟩:=by kernel_rfl
theorem Bfw:Ab Try.prog 87=⟨.other,1,8,[.nilFunc]⟩:=by kernel_rfl
theorem Bgl:Ab Try.prog 89=⟨.other,1,8,[.nilFunc]⟩:=by kernel_rfl
theorem Bfj:Ab Try.prog 90=⟨.struct [(0,3),(1,3)],2,16,[.int .i64 0,.int .i64 0]⟩:=by kernel_rfl
theorem Bd3:Ab Try.prog 91=⟨.struct [(0,3),(1,3)],2,16,[.int .i64 0,.int .i64 0]⟩:=by kernel_rfl
theorem Bfx:Ab Try.prog 92=⟨.sl 91,1,24,[.slice none 0 0]⟩:=by kernel_rfl
theorem Bdz:Ab Try.prog 93=⟨.sl 53,1,24,[.slice none 0 0]⟩:=by kernel_rfl
theorem Bft:Ab Try.prog 94=⟨.other,1,8,[.nilFunc]⟩:=by kernel_rfl
theorem Bc9:Ab Try.prog 95=⟨.other,1,8,[.nilFunc]⟩:=by kernel_rfl
theorem Bfl:Ab Try.prog 96=⟨.other,1,8,[.nilFunc]⟩:=by kernel_rfl
theorem Be8:Ab Try.prog 97=⟨.other,1,8,[.nilFunc]⟩:=by kernel_rfl
theorem Bfu:Ab Try.prog 98=⟨.other,1,8,[.nilFunc]⟩:=by kernel_rfl
theorem Bfy:Ab Try.prog 99=⟨.other,1,8,[.nilFunc]⟩:=by kernel_rfl
theorem Avd:Ab Try.prog 100=⟨.other,1,8,[.nilFunc]⟩:=by kernel_rfl
theorem Aur:Ab Try.prog 101=⟨.other,1,8,[.nilFunc]⟩:=by kernel_rfl
theorem Atf:Ab Try.prog 102=⟨.other,1,8,[.nilFunc]⟩:=by kernel_rfl
theorem As5:Ab Try.prog 103=⟨.other,1,8,[.nilFunc]⟩:=by kernel_rfl
theorem Aw4:Ab Try.prog 105=⟨.other,1,8,[.nilFunc]⟩:=by kernel_rfl
theorem At8:Ab Try.prog 106=⟨.other,1,8,[.nilFunc]⟩:=by kernel_rfl
theorem Ayh:Ab Try.prog 107=⟨.other,1,8,[.nilFunc]⟩:=by kernel_rfl
theorem Awg:Ab Try.prog 108=⟨.other,1,8,[.nilFunc]⟩:=by kernel_rfl
theorem Awc:Ab Try.prog 109=⟨.other,1,8,[.nilFunc]⟩:=by kernel_rfl
theorem Ava:Ab Try.prog 110=⟨.other,1,8,[.nilFunc]⟩:=by kernel_rfl
theorem Atz:Ab Try.prog 111=⟨.struct [(0,3),(1,53),(3,53)],5,40,[.int .i64 0,.int .i64 0,.int .i64 0,.int .i64 0,.int .i64 0]⟩:=by kernel_rfl
theorem At1:Ab Try.prog 112=⟨.struct [(0,3),(1,53),(3,53)],5,40,[.int .i64 0,.int .i64 0,.int .i64 0,.int .i64 0,.int .i64 0]⟩:=by kernel_rfl
theorem Av1:Ab Try.prog 113=⟨.sl 112,1,24,[.slice none 0 0]⟩:=by kernel_rfl
theorem Awf:Ab Try.prog 114=⟨.other,1,8,[.nilFunc]⟩:=by kernel_rfl
theorem Ay0:Ab Try.prog 115=⟨.sl 139,1,24,[.slice none 0 0]⟩:=by kernel_rfl
theorem Av9:Ab Try.prog 117=⟨.other,1,8,[.nilFunc]⟩:=by kernel_rfl
theorem Atr:Ab Try.prog 118=⟨.other,1,8,[.nilFunc]⟩:=by kernel_rfl
theorem Awq:Ab Try.prog 119=⟨.other,1,8,[.nilFunc]⟩:=by kernel_rfl
theorem Auv:Ab Try.prog 120=⟨.sl 129,1,24,[.slice none 0 0]⟩:=by kernel_rfl
theorem Awt:Ab Try.prog 121=⟨.sl 132,1,24,[.slice none 0 0]⟩:=by kernel_rfl
theorem Asz:Ab Try.prog 122=⟨.struct [(0,120),(1,121)],2,48,[.slice none 0 0,.slice none 0 0]⟩:=by kernel_rfl
theorem Aue:Ab Try.prog 123=⟨.struct [(0,120),(1,121)],2,48,[.slice none 0 0,.slice none 0 0]⟩:=by kernel_rfl
theorem Atm:Ab Try.prog 124=⟨.struct [(0,3),(1,91),(3,91)],5,40,[.int .i64 0,.int .i64 0,.int .i64 0,.int .i64 0,.int .i64 0]⟩:=by kernel_rfl
theorem Axz:Ab Try.prog 125=⟨.struct [(0,3),(1,91),(3,91)],5,40,[.int .i64 0,.int .i64 0,.int .i64 0,.int .i64 0,.int .i64 0]⟩:=by kernel_rfl
theorem Atw:Ab Try.prog 126=⟨.other,1,8,[.nilFunc]⟩:=by kernel_rfl
theorem Auc:Ab Try.prog 127=⟨.other,1,8,[.pointer none]⟩:=by kernel_rfl
theorem Au8:Ab Try.prog 128=⟨.struct [(0,91),(2,91),(4,3)],5,40,[.int .i64 0,.int .i64 0,.int .i64 0,.int .i64 0,.int .i64 0]⟩:=by kernel_rfl
theorem Aww:Ab Try.prog 129=⟨.struct [(0,91),(2,91),(4,3)],5,40,[.int .i64 0,.int .i64 0,.int .i64 0,.int .i64 0,.int .i64 0]⟩:=by kernel_rfl
theorem Azh:Ab Try.prog 130=⟨.other,1,8,[.pointer none]⟩:=by kernel_rfl
theorem Av6:Ab Try.prog 131=⟨.struct [(0,3),(1,3),(2,3),(3,91)],5,40,[.int .i64 0,.int .i64 0,.int .i64 0,.int .i64 0,.int .i64 0]⟩:=by kernel_rfl
theorem Ax0:Ab Try.prog 132=⟨.struct [(0,3),(1,3),(2,3),(3,91)],5,40,[.int .i64 0,.int .i64 0,.int .i64 0,.int .i64 0,.int .i64 0]⟩:=by kernel_rfl
theorem Awo:Ab Try.prog 133=⟨.other,1,8,[.nilFunc]⟩:=by kernel_rfl
theorem Au9:Ab Try.prog 134=⟨.other,1,8,[.nilFunc]⟩:=by kernel_rfl
theorem Avx:Ab Try.prog 135=⟨.other,1,8,[.nilFunc]⟩:=by kernel_rfl
theorem Aw1:Ab Try.prog 136=⟨.sl 125,1,24,[.slice none 0 0]⟩:=by kernel_rfl
theorem At3:Ab Try.prog 137=⟨.other,1,8,[.nilFunc]⟩:=by kernel_rfl
theorem Axb:Ab Try.prog 138=⟨.struct [(0,53),(2,53),(4,53)],6,48,[.int .i64 0,.int .i64 0,.int .i64 0,.int .i64 0,.int .i64 0,.int .i64 0]⟩:=by kernel_rfl
theorem Axq:Ab Try.prog 139=⟨.struct [(0,53),(2,53),(4,53)],6,48,[.int .i64 0,.int .i64 0,.int .i64 0,.int .i64 0,.int .i64 0,.int .i64 0]⟩:=by kernel_rfl
theorem Ay1:Ab Try.prog 140=⟨.other,1,8,[.nilFunc]⟩:=by kernel_rfl
theorem Atd:Ab Try.prog 141=⟨.other,1,8,[.nilFunc]⟩:=by kernel_rfl
theorem Axm:Ab Try.prog 142=⟨.other,1,8,[.nilFunc]⟩:=by kernel_rfl
theorem Axk:Ab Try.prog 143=⟨.other,1,8,[.nilFunc]⟩:=by kernel_rfl
theorem Awa:Ab Try.prog 144=⟨.other,1,8,[.nilFunc]⟩:=by kernel_rfl
theorem Auj:Ab Try.prog 145=⟨.struct [(0,3),(1,52),(3,52)],5,40,[.int .i64 0,.int .i64 0,.int .i64 0,.int .i64 0,.int .i64 0]⟩:=by kernel_rfl
theorem Auk:Ab Try.prog 146=⟨.struct [(0,3),(1,52),(3,52)],5,40,[.int .i64 0,.int .i64 0,.int .i64 0,.int .i64 0,.int .i64 0]⟩:=by kernel_rfl
theorem Ayf:Ab Try.prog 147=⟨.other,1,8,[.pointer none]⟩:=by kernel_rfl
theorem Au0:Ab Try.prog 149=⟨.other,1,8,[.nilFunc]⟩:=by kernel_rfl
theorem Aut:Ab Try.prog 150=⟨.arr 6 3,6,48,[.int .i64 0,.int .i64 0,.int .i64 0,.int .i64 0,.int .i64 0,.int .i64 0]⟩:=by kernel_rfl
theorem As6:Ab Try.prog 151=⟨.arr 6 3,6,48,[.int .i64 0,.int .i64 0,.int .i64 0,.int .i64 0,.int .i64 0,.int .i64 0]⟩:=by kernel_rfl
theorem Axu:Ab Try.prog 152=⟨.struct [(0,44),(5,37),(6,151),(12,151)],18,224,[.slice none 0 0,.slice none 0 0,.slice none 0 0,.int .i64 0,.slice none 0 0,.slice none 0 0,.int .i64 0,.int .i64 0,.int .i64 0,.int .i64 0,.int .i64 0,.int .i64 0,.int .i64 0,.int .i64 0,.int .i64 0,.int .i64 0,.int .i64 0,.int .i64 0]⟩:=by kernel_rfl
theorem Azf:Ab Try.prog 153=⟨.struct [(0,44),(5,37),(6,151),(12,151)],18,224,[.slice none 0 0,.slice none 0 0,.slice none 0 0,.int .i64 0,.slice none 0 0,.slice none 0 0,.int .i64 0,.int .i64 0,.int .i64 0,.int .i64 0,.int .i64 0,.int .i64 0,.int .i64 0,.int .i64 0,.int .i64 0,.int .i64 0,.int .i64 0,.int .i64 0]⟩:=by kernel_rfl
theorem Auz:Ab Try.prog 154=⟨.other,1,8,[.nilFunc]⟩:=by kernel_rfl
theorem Avn:Ab Try.prog 155=⟨.other,1,8,[.nilFunc]⟩:=by kernel_rfl
theorem Avg:Ab Try.prog 156=⟨.other,1,8,[.nilFunc]⟩:=by kernel_rfl
theorem Au5:Ab Try.prog 157=⟨.other,1,8,[.nilFunc]⟩:=by kernel_rfl
theorem Avo:Ab Try.prog 158=⟨.struct [(0,22),(1,3)],2,32,[.slice none 0 0,.int .i64 0]⟩:=by kernel_rfl
theorem Azj:Ab Try.prog 159=⟨.struct [(0,22),(1,3)],2,32,[.slice none 0 0,.int .i64 0]⟩:=by kernel_rfl
theorem Atp:Ab Try.prog 160=⟨.other,1,8,[.nilFunc]⟩:=by kernel_rfl
theorem Av4:Ab Try.prog 161=⟨.other,1,8,[.nilFunc]⟩:=by kernel_rfl
theorem Awz:Ab Try.prog 162=⟨.other,1,8,[.nilFunc]⟩:=by kernel_rfl
theorem Ate:Ab Try.prog 163=⟨.struct [(0,3),(1,3)],2,16,[.int .i64 0,.int .i64 0]⟩:=by kernel_rfl
theorem Azm:Ab Try.prog 164=⟨.struct [(0,3),(1,3)],2,16,[.int .i64 0,.int .i64 0]⟩:=by kernel_rfl
theorem Awp:Ab Try.prog 165=⟨.arr 4 164,8,64,[.int .i64 0,.int .i64 0,.int .i64 0,.int .i64 0,.int .i64 0,.int .i64 0,.int .i64 0,.int .i64 0]⟩:=by kernel_rfl
theorem Ahu:Ab Try.prog 166=⟨.arr 4 164,8,64,[.int .i64 0,.int .i64 0,.int .i64 0,.int .i64 0,.int .i64 0,.int .i64 0,.int .i64 0,.int .i64 0]⟩:=by kernel_rfl
theorem Au7:Ab Try.prog 168=⟨.other,1,8,[.pointer none]⟩:=by kernel_rfl
theorem Auo:Ab Try.prog 169=⟨.other,1,8,[.nilFunc]⟩:=by kernel_rfl
theorem Ato:Ab Try.prog 170=⟨.other,1,8,[.nilFunc]⟩:=by kernel_rfl
theorem Azg:Ab Try.prog 171=⟨.sl 164,1,24,[.slice none 0 0]⟩:=by kernel_rfl
theorem Ayy:Ab Try.prog 172=⟨.other,1,8,[.nilFunc]⟩:=by kernel_rfl
theorem Ayp:Ab Try.prog 173=⟨.struct [(0,3),(1,3)],2,16,[.int .i64 0,.int .i64 0]⟩:=by kernel_rfl
theorem Axf:Ab Try.prog 174=⟨.struct [(0,3),(1,3),(2,90),(4,3)],5,40,[.int .i64 0,.int .i64 0,.int .i64 0,.int .i64 0,.int .i64 0]⟩:=by kernel_rfl
theorem Ayo:Ab Try.prog 175=⟨.struct [(0,3),(1,3),(2,90),(4,3)],5,40,[.int .i64 0,.int .i64 0,.int .i64 0,.int .i64 0,.int .i64 0]⟩:=by kernel_rfl
theorem Axe:Ab Try.prog 176=⟨.other,1,8,[.nilFunc]⟩:=by kernel_rfl
theorem Avu:Ab Try.prog 177=⟨.other,1,8,[.nilFunc]⟩:=by kernel_rfl
theorem Avk:Ab Try.prog 178=⟨.other,1,8,[.nilFunc]⟩:=by kernel_rfl
theorem Axy:Ab Try.prog 179=⟨.other,1,8,[.nilFunc]⟩:=by kernel_rfl
theorem Aw6:Ab Try.prog 180=⟨.arr 12 3,12,96,[.int .i64 0,.int .i64 0,.int .i64 0,.int .i64 0,.int .i64 0,.int .i64 0,.int .i64 0,.int .i64 0,.int .i64 0,.int .i64 0,.int .i64 0,.int .i64 0]⟩:=by kernel_rfl
theorem Atn:Ab Try.prog 181=⟨.arr 12 3,12,96,[.int .i64 0,.int .i64 0,.int .i64 0,.int .i64 0,.int .i64 0,.int .i64 0,.int .i64 0,.int .i64 0,.int .i64 0,.int .i64 0,.int .i64 0,.int .i64 0]⟩:=by kernel_rfl
theorem Auf:Ab Try.prog 182=⟨.other,1,8,[.nilFunc]⟩:=by kernel_rfl
theorem Au4:Ab Try.prog 183=⟨.other,1,8,[.nilFunc]⟩:=by kernel_rfl
theorem Aug:Ab Try.prog 184=⟨.other,1,8,[.nilFunc]⟩:=by kernel_rfl
theorem Av0:Ab Try.prog 185=⟨.other,1,8,[.nilFunc]⟩:=by kernel_rfl
theorem Axa:Ab Try.prog 186=⟨.other,1,8,[.nilFunc]⟩:=by kernel_rfl
theorem Aws:Ab Try.prog 187=⟨.other,1,8,[.nilFunc]⟩:=by kernel_rfl
theorem Atu:Ab Try.prog 188=⟨.other,1,8,[.nilFunc]⟩:=by kernel_rfl
theorem Ayi:Ab Try.prog 189=⟨.other,1,8,[.nilFunc]⟩:=by kernel_rfl
theorem At7:Ab Try.prog 190=⟨.other,1,8,[.nilFunc]⟩:=by kernel_rfl
theorem Aw7:Ab Try.prog 191=⟨.other,1,8,[.nilFunc]⟩:=by kernel_rfl
theorem Ax5:Ab Try.prog 192=⟨.other,1,8,[.nilFunc]⟩:=by kernel_rfl
theorem Atk:Ab Try.prog 193=⟨.other,1,8,[.nilFunc]⟩:=by kernel_rfl
theorem Awk:Ab Try.prog 194=⟨.mp 3 4,1,8,[.map none]⟩:=by kernel_rfl
theorem Axr:Ab Try.prog 196=⟨.other,1,8,[.nilFunc]⟩:=by kernel_rfl
theorem Avz:Ab Try.prog 197=⟨.other,1,8,[.nilFunc]⟩:=by kernel_rfl
theorem Aus:Ab Try.prog 198=⟨.other,1,8,[.nilFunc]⟩:=by kernel_rfl
theorem Aze:Ab Try.prog 199=⟨.other,1,8,[.nilFunc]⟩:=by kernel_rfl
theorem Azl:Ab Try.prog 200=⟨.other,1,8,[.nilFunc]⟩:=by kernel_rfl
theorem Auh:Ab Try.prog 201=⟨.other,1,8,[.nilFunc]⟩:=by kernel_rfl
theorem Axn:Ab Try.prog 202=⟨.other,1,8,[.nilFunc]⟩:=by kernel_rfl
theorem Ax9:Ab Try.prog 203=⟨.struct [(0,202)],1,8,[.nilFunc]⟩:=by kernel_rfl
theorem Avf:Ab Try.prog 204=⟨.struct [(0,202)],1,8,[.nilFunc]⟩:=by kernel_rfl
theorem Ayb:Ab Try.prog 205=⟨.arr 3 204,3,24,[.nilFunc,.nilFunc,.nilFunc]⟩:=by kernel_rfl
theorem Avp:Ab Try.prog 206=⟨.other,1,8,[.nilFunc]⟩:=by kernel_rfl
theorem At6:Ab Try.prog 207=⟨.other,1,8,[.pointer none]⟩:=by kernel_rfl
theorem Ayr:Ab Try.prog 209=⟨.other,1,8,[.nilFunc]⟩:=by kernel_rfl
theorem Awh:Ab Try.prog 210=⟨.other,1,8,[.nilFunc]⟩:=by kernel_rfl
theorem Axl:Ab Try.prog 211=⟨.other,1,8,[.nilFunc]⟩:=by kernel_rfl
theorem Ayq:Ab Try.prog 212=⟨.other,1,8,[.nilFunc]⟩:=by kernel_rfl
theorem Ayj:Ab Try.prog 213=⟨.other,1,8,[.nilFunc]⟩:=by kernel_rfl
theorem Ath:Ab Try.prog 214=⟨.other,1,8,[.nilFunc]⟩:=by kernel_rfl
theorem Avq:Ab Try.prog 215=⟨.other,1,8,[.nilFunc]⟩:=by kernel_rfl
theorem Auu:Ab Try.prog 216=⟨.other,1,8,[.nilFunc]⟩:=by kernel_rfl
theorem Ayu:Ab Try.prog 217=⟨.other,1,8,[.nilFunc]⟩:=by kernel_rfl
theorem At0:Ab Try.prog 218=⟨.other,1,8,[.pointer none]⟩:=by kernel_rfl
theorem As4:Ab Try.prog 219=⟨.other,1,8,[.nilFunc]⟩:=by kernel_rfl
theorem Ats:Ab Try.prog 220=⟨.other,1,8,[.nilFunc]⟩:=by kernel_rfl
theorem Aty:Ab Try.prog 221=⟨.other,1,8,[.nilFunc]⟩:=by kernel_rfl
theorem Aum:Ab Try.prog 222=⟨.other,1,8,[.nilFunc]⟩:=by kernel_rfl
theorem As8:Ab Try.prog 223=⟨.other,1,8,[.nilFunc]⟩:=by kernel_rfl
theorem Awd:Ab Try.prog 224=⟨.struct [(0,22),(1,22),(2,22)],3,72,[.slice none 0 0,.slice none 0 0,.slice none 0 0]⟩:=by kernel_rfl
theorem Axs:Ab Try.prog 225=⟨.other,1,8,[.nilFunc]⟩:=by kernel_rfl
theorem Ayl:Ab Try.prog 226=⟨.other,1,8,[.nilFunc]⟩:=by kernel_rfl
theorem Au2:Ab Try.prog 227=⟨.other,1,8,[.nilFunc]⟩:=by kernel_rfl
theorem Atj:Ab Try.prog 228=⟨.other,1,8,[.nilFunc]⟩:=by kernel_rfl
theorem Aym:Ab Try.prog 229=⟨.other,1,8,[.nilFunc]⟩:=by kernel_rfl
theorem Avb:Ab Try.prog 230=⟨.other,1,8,[.nilFunc]⟩:=by kernel_rfl
theorem Aya:Ab Try.prog 231=⟨.arr 2 3,2,16,[.int .i64 0,.int .i64 0]⟩:=by kernel_rfl
theorem As2:Ab Try.prog 233=⟨.other,1,8,[.nilFunc]⟩:=by kernel_rfl
theorem Ay7:Ab Try.prog 234=⟨.other,1,8,[.nilFunc]⟩:=by kernel_rfl
theorem Avm:Ab Try.prog 235=⟨.mp 256 258,1,8,[.map none]⟩:=by kernel_rfl
theorem Atb:Ab Try.prog 236=⟨.struct [(0,49),(2,235)],3,56,[.slice none 0 0,.slice none 0 0,.map none]⟩:=by kernel_rfl
theorem At4:Ab Try.prog 237=⟨.struct [(0,49),(2,235)],3,56,[.slice none 0 0,.slice none 0 0,.map none]⟩:=by kernel_rfl
theorem Aw5:Ab Try.prog 238=⟨.other,1,8,[.nilFunc]⟩:=by kernel_rfl
theorem Ay8:Ab Try.prog 239=⟨.other,1,8,[.nilFunc]⟩:=by kernel_rfl
theorem Atq:Ab Try.prog 240=⟨.other,1,8,[.nilFunc]⟩:=by kernel_rfl
theorem Ax8:Ab Try.prog 241=⟨.other,1,8,[.nilFunc]⟩:=by kernel_rfl
theorem Aw2:Ab Try.prog 242=⟨.other,1,8,[.nilFunc]⟩:=by kernel_rfl
theorem Axo:Ab Try.prog 243=⟨.other,1,8,[.nilFunc]⟩:=by kernel_rfl
theorem Avw:Ab Try.prog 244=⟨.other,1,8,[.nilFunc]⟩:=by kernel_rfl
theorem Awi:Ab Try.prog 245=⟨.other,1,8,[.nilFunc]⟩:=by kernel_rfl
theorem Aye:Ab Try.prog 247=⟨.other,1,8,[.nilFunc]⟩:=by kernel_rfl
theorem Axt:Ab Try.prog 248=⟨.other,1,8,[.nilFunc]⟩:=by kernel_rfl
theorem Awu:Ab Try.prog 249=⟨.other,1,8,[.nilFunc]⟩:=by kernel_rfl
theorem Auy:Ab Try.prog 250=⟨.other,1,8,[.nilFunc]⟩:=by kernel_rfl
theorem Aui:Ab Try.prog 251=⟨.other,1,8,[.nilFunc]⟩:=by kernel_rfl
theorem Att:Ab Try.prog 252=⟨.other,1,8,[.nilFunc]⟩:=by kernel_rfl
theorem Ayx:Ab Try.prog 253=⟨.other,1,8,[.nilFunc]⟩:=by kernel_rfl
theorem Axp:Ab Try.prog 254=⟨.other,1,8,[.nilFunc]⟩:=by kernel_rfl
theorem Ata:Ab Try.prog 255=⟨.struct [(0,58),(5,3),(6,166)],14,112,[.int .i64 0,.int .i64 0,.int .i64 0,.int .i64 0,.int .i64 0,.int .i64 0,.int .i64 0,.int .i64 0,.int .i64 0,.int .i64 0,.int .i64 0,.int .i64 0,.int .i64 0,.int .i64 0]⟩:=by kernel_rfl
theorem Ave:Ab Try.prog 256=⟨.struct [(0,58),(5,3),(6,166)],14,112,[.int .i64 0,.int .i64 0,.int .i64 0,.int .i64 0,.int .i64 0,.int .i64 0,.int .i64 0,.int .i64 0,.int .i64 0,.int .i64 0,.int .i64 0,.int .i64 0,.int .i64 0,.int .i64 0]⟩:=by kernel_rfl
theorem Avy:Ab Try.prog 257=⟨.struct [(0,166),(8,4)],9,72,[.int .i64 0,.int .i64 0,.int .i64 0,.int .i64 0,.int .i64 0,.int .i64 0,.int .i64 0,.int .i64 0,.bool false]⟩:=by kernel_rfl
theorem Au6:Ab Try.prog 258=⟨.struct [(0,166),(8,4)],9,72,[.int .i64 0,.int .i64 0,.int .i64 0,.int .i64 0,.int .i64 0,.int .i64 0,.int .i64 0,.int .i64 0,.bool false]⟩:=by kernel_rfl
theorem Ays:Ab Try.prog 260=⟨.other,1,8,[.nilFunc]⟩:=by kernel_rfl
theorem Ax1:Ab Try.prog 261=⟨.other,1,8,[.nilFunc]⟩:=by kernel_rfl
theorem Ax6:Ab Try.prog 262=⟨.other,1,8,[.nilFunc]⟩:=by kernel_rfl
theorem Ayc:Ab Try.prog 263=⟨.other,1,8,[.nilFunc]⟩:=by kernel_rfl
theorem Awn:Ab Try.prog 264=⟨.other,1,8,[.nilFunc]⟩:=by kernel_rfl
theorem Auw:Ab Try.prog 265=⟨.struct [(0,3),(1,3)],2,16,[.int .i64 0,.int .i64 0]⟩:=by kernel_rfl
theorem Axg:Ab Try.prog 267=⟨.other,1,8,[.nilFunc]⟩:=by kernel_rfl
theorem Au3:Ab Try.prog 268=⟨.other,1,8,[.nilFunc]⟩:=by kernel_rfl
theorem Ayw:Ab Try.prog 269=⟨.other,1,8,[.nilFunc]⟩:=by kernel_rfl
theorem Azp:Ab Try.prog 270=⟨.other,1,8,[.nilFunc]⟩:=by kernel_rfl
theorem Ay9:Ab Try.prog 271=⟨.other,1,8,[.nilFunc]⟩:=by kernel_rfl
theorem Atg:Ab Try.prog 272=⟨.other,1,8,[.nilFunc]⟩:=by kernel_rfl
theorem Azk:Ab Try.prog 273=⟨.struct [(0,272)],1,8,[.nilFunc]⟩:=by kernel_rfl
theorem Ay6:Ab Try.prog 274=⟨.struct [(0,272)],1,8,[.nilFunc]⟩:=by kernel_rfl
theorem Axh:Ab Try.prog 275=⟨.arr 2 274,2,16,[.nilFunc,.nilFunc]⟩:=by kernel_rfl
theorem Avt:Ab Try.prog 276=⟨.other,1,8,[.nilFunc]⟩:=by kernel_rfl
theorem Axd:Ab Try.prog 277=⟨.other,1,8,[.nilFunc]⟩:=by kernel_rfl
theorem Ayt:Ab Try.prog 278=⟨.other,1,8,[.nilFunc]⟩:=by kernel_rfl
theorem Azc:Ab Try.prog 279=⟨.other,1,8,[.pointer none]⟩:=by kernel_rfl
theorem Awl:Ab Try.prog 280=⟨.mp 289 3,1,8,[.map none]⟩:=by kernel_rfl
theorem As1:Ab Try.prog 281=⟨.struct [(0,86),(6,3),(7,3),(8,280)],9,104,[.int .i64 0,.int .i64 0,.int .i64 0,.int .i64 0,.slice none 0 0,.slice none 0 0,.int .i64 0,.int .i64 0,.map none]⟩:=by kernel_rfl
theorem Av5:Ab Try.prog 282=⟨.struct [(0,86),(6,3),(7,3),(8,280)],9,104,[.int .i64 0,.int .i64 0,.int .i64 0,.int .i64 0,.slice none 0 0,.slice none 0 0,.int .i64 0,.int .i64 0,.map none]⟩:=by kernel_rfl
theorem Azo:Ab Try.prog 283=⟨.other,1,8,[.nilFunc]⟩:=by kernel_rfl
theorem Awe:Ab Try.prog 284=⟨.struct [(0,283)],1,8,[.nilFunc]⟩:=by kernel_rfl
theorem Awx:Ab Try.prog 285=⟨.struct [(0,283)],1,8,[.nilFunc]⟩:=by kernel_rfl
theorem Avj:Ab Try.prog 286=⟨.arr 4 285,4,32,[.nilFunc,.nilFunc,.nilFunc,.nilFunc]⟩:=by kernel_rfl
theorem Awv:Ab Try.prog 287=⟨.other,1,8,[.nilFunc]⟩:=by kernel_rfl
theorem Azd:Ab Try.prog 288=⟨.struct [(0,175),(5,3)],6,48,[.int .i64 0,.int .i64 0,.int .i64 0,.int .i64 0,.int .i64 0,.int .i64 0]⟩:=by kernel_rfl
theorem As3:Ab Try.prog 289=⟨.struct [(0,175),(5,3)],6,48,[.int .i64 0,.int .i64 0,.int .i64 0,.int .i64 0,.int .i64 0,.int .i64 0]⟩:=by kernel_rfl
theorem Aua:Ab Try.prog 290=⟨.other,1,8,[.nilFunc]⟩:=by kernel_rfl
theorem Azb:Ab Try.prog 291=⟨.other,1,8,[.nilFunc]⟩:=by kernel_rfl
theorem As0:Ab Try.prog 292=⟨.other,1,8,[.pointer none]⟩:=by kernel_rfl
theorem Aza:Ab Try.prog 293=⟨.other,1,8,[.nilFunc]⟩:=by kernel_rfl
theorem Atc:Ab Try.prog 294=⟨.other,1,8,[.nilFunc]⟩:=by kernel_rfl
theorem At9:Ab Try.prog 295=⟨.other,1,8,[.nilFunc]⟩:=by kernel_rfl
theorem Ayz:Ab Try.prog 296=⟨.other,1,8,[.nilFunc]⟩:=by kernel_rfl
theorem Aux:Ab Try.prog 297=⟨.other,1,8,[.nilFunc]⟩:=by kernel_rfl
theorem Aun:Ab Try.prog 298=⟨.other,1,8,[.nilFunc]⟩:=by kernel_rfl
theorem Aup:Ab Try.prog 299=⟨.other,1,8,[.nilFunc]⟩:=by kernel_rfl
theorem Aw9:Ab Try.prog 300=⟨.other,1,8,[.nilFunc]⟩:=by kernel_rfl
theorem Ax3:Ab Try.prog 301=⟨.other,1,8,[.nilFunc]⟩:=by kernel_rfl
theorem Axw:Ab Try.prog 302=⟨.other,1,8,[.nilFunc]⟩:=by kernel_rfl
theorem Av2:Ab Try.prog 303=⟨.other,1,8,[.nilFunc]⟩:=by kernel_rfl
theorem Awb:Ab Try.prog 304=⟨.other,1,8,[.nilFunc]⟩:=by kernel_rfl
theorem Aub:Ab Try.prog 305=⟨.other,1,8,[.nilFunc]⟩:=by kernel_rfl
theorem Ati:Ab Try.prog 306=⟨.other,1,8,[.nilFunc]⟩:=by kernel_rfl
theorem Axv:Ab Try.prog 307=⟨.other,1,8,[.nilFunc]⟩:=by kernel_rfl
theorem Avv:Ab Try.prog 308=⟨.other,1,8,[.nilFunc]⟩:=by kernel_rfl
theorem Ay5:Ab Try.prog 309=⟨.other,1,8,[.nilFunc]⟩:=by kernel_rfl
theorem At2:Ab Try.prog 310=⟨.other,1,8,[.nilFunc]⟩:=by kernel_rfl
theorem As7:Ab Try.prog 311=⟨.other,1,8,[.nilFunc]⟩:=by kernel_rfl
theorem Ax2:Ab Try.prog 312=⟨.struct [(0,3),(1,3),(2,3)],3,24,[.int .i64 0,.int .i64 0,.int .i64 0]⟩:=by kernel_rfl
theorem Ax7:Ab Try.prog 313=⟨.sl 312,1,24,[.slice none 0 0]⟩:=by kernel_rfl
theorem Avh:Ab Try.prog 315=⟨.other,1,8,[.nilFunc]⟩:=by kernel_rfl
theorem Axx:Ab Try.prog 318=⟨.arr 0 16,0,0,[]⟩:=by kernel_rfl
theorem Aw0:Ab Try.prog 319=⟨.struct [(0,318)],0,0,[]⟩:=by kernel_rfl
theorem Awr:Ab Try.prog 320=⟨.struct [(0,318)],0,0,[]⟩:=by kernel_rfl
theorem Atx:Ab Try.prog 321=⟨.int .u32,1,4,[.int .u32 0]⟩:=by kernel_rfl
theorem Avs:Ab Try.prog 322=⟨.int .u8,1,1,[.int .u8 0]⟩:=by kernel_rfl
theorem Ay4:Ab Try.prog 323=⟨.int .u8,1,1,[.int .u8 0]⟩:=by kernel_rfl
theorem Avi:Ab Try.prog 324=⟨.other,1,8,[.nilFunc]⟩:=by kernel_rfl
theorem Avl:Ab Try.prog 325=⟨.other,1,8,[.pointer none]⟩:=by kernel_rfl
theorem Ayd:Ab Try.prog 326=⟨.int .i32,1,4,[.int .i32 0]⟩:=by kernel_rfl
theorem Av7:Ab Try.prog 327=⟨.int .i32,1,4,[.int .i32 0]⟩:=by kernel_rfl
theorem Avc:Ab Try.prog 328=⟨.struct [(0,12),(1,12),(2,321),(3,322),(4,5),(5,5),(6,323),(7,324),(8,325),(9,326),(10,327)],11,48,[.int .u64 0,.int .u64 0,.int .u32 0,.int .u8 0,.int .u8 0,.int .u8 0,.int .u8 0,.nilFunc,.pointer none,.int .i32 0,.int .i32 0]⟩:=by kernel_rfl
theorem Aul:Ab Try.prog 329=⟨.struct [(0,12),(1,12),(2,321),(3,322),(4,5),(5,5),(6,323),(7,324),(8,325),(9,326),(10,327)],11,48,[.int .u64 0,.int .u64 0,.int .u32 0,.int .u8 0,.int .u8 0,.int .u8 0,.int .u8 0,.nilFunc,.pointer none,.int .i32 0,.int .i32 0]⟩:=by kernel_rfl
theorem Aw8:Ab Try.prog 330=⟨.other,1,8,[.pointer none]⟩:=by kernel_rfl
def Be9:=PLift.up (And.intro @ty1 (And.intro @ty2 (And.intro @ty3 (And.intro @ty4 (And.intro @ty5 (And.intro @ty6 (And.intro @ty7 (And.intro @ty8 (And.intro @Bcz (And.intro @Bdf (And.intro @Bdj (And.intro @Bel (And.intro @Bc5 (And.intro @Bc0 (And.intro @Bgj (And.intro @Bdm (And.intro @Bc2 (And.intro @Bfh (And.intro @Bdq (And.intro @Bdw (And.intro @Bed (And.intro @Bdg (And.intro @Bcx (@Bdr))))))))))))))))))))))))
def Bf2:=PLift.up (And.intro @Bgc (And.intro @Bds (And.intro @Bfe (And.intro @Bf3 (And.intro @Bf9 (And.intro @Be3 (And.intro @Bdv (And.intro @Bfn (And.intro @Bd9 (And.intro @Bek (And.intro @Bdy (And.intro @Bei (And.intro @Bcg (And.intro @Bcl (And.intro @Bcy (And.intro @Bdk (And.intro @Bfk (And.intro @Bc1 (And.intro @Bd2 (And.intro @Bf1 (And.intro @Bej (And.intro @Be5 (And.intro @Bb8 (@Bdu))))))))))))))))))))))))
def Beg:=PLift.up (And.intro @Bcp (And.intro @Bfp (And.intro @Bcr (And.intro @Bdn (And.intro @Bf6 (And.intro @Bda (And.intro @Bdl (And.intro @Bdc (And.intro @Bcb (And.intro @Bcd (And.intro @Bff (And.intro @Be7 (And.intro @Bco (And.intro @Bfd (And.intro @Bea (And.intro @Bcm (And.intro @Bf0 (And.intro @Bde (And.intro @Bdi (And.intro @Bd0 (And.intro @Bgd (And.intro @Bfo (And.intro @Bcf (@Bfq))))))))))))))))))))))))
def Be6:=PLift.up (And.intro @Bfi (And.intro @Bck (And.intro @Bey (And.intro @Bcs (And.intro @Bfw (And.intro @Bgl (And.intro @Bfj (And.intro @Bd3 (And.intro @Bfx (And.intro @Bdz (And.intro @Bft (And.intro @Bc9 (And.intro @Bfl (And.intro @Be8 (And.intro @Bfu (And.intro @Bfy (And.intro @Avd (And.intro @Aur (And.intro @Atf (And.intro @As5 (And.intro @Aw4 (And.intro @At8 (And.intro @Ayh (@Awg))))))))))))))))))))))))
def Bdt:=PLift.up (And.intro @Awc (And.intro @Ava (And.intro @Atz (And.intro @At1 (And.intro @Av1 (And.intro @Awf (And.intro @Ay0 (And.intro @Av9 (And.intro @Atr (And.intro @Awq (And.intro @Auv (And.intro @Awt (And.intro @Asz (And.intro @Aue (And.intro @Atm (And.intro @Axz (And.intro @Atw (And.intro @Auc (And.intro @Au8 (And.intro @Aww (And.intro @Azh (And.intro @Av6 (And.intro @Ax0 (@Awo))))))))))))))))))))))))
def Bge:=PLift.up (And.intro @Au9 (And.intro @Avx (And.intro @Aw1 (And.intro @At3 (And.intro @Axb (And.intro @Axq (And.intro @Ay1 (And.intro @Atd (And.intro @Axm (And.intro @Axk (And.intro @Awa (And.intro @Auj (And.intro @Auk (And.intro @Ayf (And.intro @Au0 (And.intro @Aut (And.intro @As6 (And.intro @Axu (And.intro @Azf (And.intro @Auz (And.intro @Avn (And.intro @Avg (And.intro @Au5 (@Avo))))))))))))))))))))))))
def Bev:=PLift.up (And.intro @Azj (And.intro @Atp (And.intro @Av4 (And.intro @Awz (And.intro @Ate (And.intro @Azm (And.intro @Awp (And.intro @Ahu (And.intro @Au7 (And.intro @Auo (And.intro @Ato (And.intro @Azg (And.intro @Ayy (And.intro @Ayp (And.intro @Axf (And.intro @Ayo (And.intro @Axe (And.intro @Avu (And.intro @Avk (And.intro @Axy (And.intro @Aw6 (And.intro @Atn (And.intro @Auf (@Au4))))))))))))))))))))))))
def Bef:=PLift.up (And.intro @Aug (And.intro @Av0 (And.intro @Axa (And.intro @Aws (And.intro @Atu (And.intro @Ayi (And.intro @At7 (And.intro @Aw7 (And.intro @Ax5 (And.intro @Atk (And.intro @Awk (And.intro @Axr (And.intro @Avz (And.intro @Aus (And.intro @Aze (And.intro @Azl (And.intro @Auh (And.intro @Axn (And.intro @Ax9 (And.intro @Avf (And.intro @Ayb (And.intro @Avp (And.intro @At6 (@Ayr))))))))))))))))))))))))
def Bet:=PLift.up (And.intro @Awh (And.intro @Axl (And.intro @Ayq (And.intro @Ayj (And.intro @Ath (And.intro @Avq (And.intro @Auu (And.intro @Ayu (And.intro @At0 (And.intro @As4 (And.intro @Ats (And.intro @Aty (And.intro @Aum (And.intro @As8 (And.intro @Awd (And.intro @Axs (And.intro @Ayl (And.intro @Au2 (And.intro @Atj (And.intro @Aym (And.intro @Avb (And.intro @Aya (And.intro @As2 (@Ay7))))))))))))))))))))))))
def Bgi:=PLift.up (And.intro @Avm (And.intro @Atb (And.intro @At4 (And.intro @Aw5 (And.intro @Ay8 (And.intro @Atq (And.intro @Ax8 (And.intro @Aw2 (And.intro @Axo (And.intro @Avw (And.intro @Awi (And.intro @Aye (And.intro @Axt (And.intro @Awu (And.intro @Auy (And.intro @Aui (And.intro @Att (And.intro @Ayx (And.intro @Axp (And.intro @Ata (And.intro @Ave (And.intro @Avy (And.intro @Au6 (@Ays))))))))))))))))))))))))
def Az4:=PLift.up (And.intro @Ax1 (And.intro @Ax6 (And.intro @Ayc (And.intro @Awn (And.intro @Auw (And.intro @Axg (And.intro @Au3 (And.intro @Ayw (And.intro @Azp (And.intro @Ay9 (And.intro @Atg (And.intro @Azk (And.intro @Ay6 (And.intro @Axh (And.intro @Avt (And.intro @Axd (And.intro @Ayt (And.intro @Azc (And.intro @Awl (And.intro @As1 (And.intro @Av5 (And.intro @Azo (And.intro @Awe (@Awx))))))))))))))))))))))))
def Az3:=PLift.up (And.intro @Avj (And.intro @Awv (And.intro @Azd (And.intro @As3 (And.intro @Aua (And.intro @Azb (And.intro @As0 (And.intro @Aza (And.intro @Atc (And.intro @At9 (And.intro @Ayz (And.intro @Aux (And.intro @Aun (And.intro @Aup (And.intro @Aw9 (And.intro @Ax3 (And.intro @Axw (And.intro @Av2 (And.intro @Awb (And.intro @Aub (And.intro @Ati (And.intro @Axv (And.intro @Avv (@Ay5))))))))))))))))))))))))
def Az7:=PLift.up (And.intro @At2 (And.intro @As7 (And.intro @Ax2 (And.intro @Ax7 (And.intro @Avh (And.intro @Axx (And.intro @Aw0 (And.intro @Awr (And.intro @Atx (And.intro @Avs (And.intro @Ay4 (And.intro @Avi (And.intro @Avl (And.intro @Ayd (And.intro @Av7 (And.intro @Avc (And.intro @Aul (@Aw8))))))))))))))))))
def Bd4:=PLift.up (And.intro Be9.down (And.intro Bf2.down (And.intro Beg.down (And.intro Be6.down (And.intro Bdt.down (And.intro Bge.down (And.intro Bev.down (And.intro Bef.down (And.intro Bet.down (And.intro Bgi.down (And.intro Az4.down (And.intro Az3.down (Az7.down)))))))))))))
theorem amT:type_of% Bd4.down:=Bd4.down
end AM.Try
end
/- The program's small functions: ranges, vessels, steps. -/
section
namespace AM.Try
open Go AM AM.Wort Go.Proofs
open Nat renaming reduceLT→sA,reduceAdd→sB,reduceMul→sC,reduceSub→sD,reduceLeDiff→sE,reduceEqDiff→sF,reduceBEq→sG
open Int renaming reduceAdd→sH,reduceSub→sI,reduceMul→sJ,reduceLT→sK,reduceLE→sL,reduceNeg→sM,reduceToNat→sN,reduceEq→sO
set_option maxRecDepth 100000
set_option maxHeartbeats 8000000
theorem J8 (n lo hi:Int):Bo Try.prog 92 [i64 n,i64 lo,i64 hi] (bl (inB n lo hi)):=by
  refine Bg (v:=[]) (q:=[]) (N:=15) (rs:=[.tmp 6]) Try.func92 rfl rfl rfl rfl rfl ?_
  refine Aa fun K1 hK1=>?_
  refine Ac ?_
  simp (disch:=omega) only [amL,sA,sB]
  refine hK1 _ ?_
  refine Aa fun K2 hK2=>?_
  refine Ac ?_
  simp (disch:=omega) only [amL,amT,sA,sF,↓reduceIte,reduceCtorEq]
  repeat' first | (refine Dp (fun h=>?_) (fun h=>?_) <;> simp (disch:=omega) only [h,amL,amT,sA,sF,↓reduceIte,reduceCtorEq]) | (refine B0 (fun h=>?_) (fun h=>?_) <;> simp (disch:=omega) only [h,amL,amT,sA,sB,sC,sD,sE,sF,sG,sH,sI,sJ,sK,sL,sM,sN,sO,↓reduceIte,reduceCtorEq])
  all_goals
   skip
   refine hK2 _ ?_
   refine Ah ?_
   try simp (disch:=omega) only [amL,↓reduceIte]
   simp [inB,h]
theorem Ac5 (r:Rng) (n:Int):Bo Try.prog 60 [avR r,i64 n] (bl (Gb r n)):=by
  refine Bg (v:=[]) (q:=[]) (N:=11) (rs:=[.tmp 4]) Try.func60 rfl rfl rfl rfl rfl ?_
  refine Aa fun K1 hK1=>?_
  refine Ac ?_
  simp (disch:=omega) only [amL,sA,sB,↓reduceIte]
  refine hK1 _ ?_
  refine Aa fun K2 hK2=>?_
  refine Ac ?_
  simp (disch:=omega) only [amL,amT,sA,sF,↓reduceIte,reduceCtorEq]
  repeat' first | (refine Aq (by kernel_rfl) rfl (J8 _ _ _) (by first | exact .inl rfl | exact .inr (.inl rfl)) ?_ ; simp (disch:=omega) only [amL,sA,↓reduceIte])
  refine hK2 _ ?_
  refine Ah ?_
  try simp (disch:=omega) only [amL,↓reduceIte]
  rfl
theorem Af7 (r:Rng) (h1:-9223372036854775808≤r.hi - r.lo) (h2:r.hi - r.lo < 9223372036854775807):Bo Try.prog 98 [avR r] (i64 (Fc r)):=by
  refine Bg (v:=[]) (q:=[]) (N:=9) (rs:=[.tmp 2]) Try.func98 rfl rfl rfl rfl rfl ?_
  refine Aa fun K1 hK1=>?_
  refine Ac ?_
  simp (disch:=omega) only [amL,sA,↓reduceIte]
  refine hK1 _ ?_
  refine Aa fun K2 hK2=>?_
  refine Ac ?_
  simp (disch:=omega) only [amL,amT,sA,sF,↓reduceIte,reduceCtorEq]
  refine hK2 _ ?_
  refine Ah ?_
  try simp (disch:=omega) only [amL,↓reduceIte]
  rfl
theorem Anv {r:Rng} {most:Int}:Jc r most=(decide (0≤r.lo)&&(decide (r.lo≤r.hi)&&(decide (r.hi≤most)&&decide (r.hi - r.lo≤2)))):=rfl
theorem Ac7 (r:Rng) (most:Int) (hm:most < 9223372036854775807):Bo Try.prog 146 [avR r,i64 most] (bl (Jc r most)):=by
  refine Bg (v:=[]) (q:=[]) (N:=29) (rs:=[.tmp 4]) Try.func146 rfl rfl rfl rfl rfl ?_
  refine Aa fun K1 hK1=>?_
  refine Ac ?_
  simp (disch:=omega) only [amL,sA,sB,↓reduceIte]
  refine hK1 _ ?_
  refine Aa fun K2 hK2=>?_
  refine Ac ?_
  simp (disch:=omega) only [amL,amT,sA,sF,↓reduceIte,reduceCtorEq]
  repeat' first | (refine Dp (fun h=>?_) (fun h=>?_) <;> simp (disch:=omega) only [h,amL,amT,sA,sF,↓reduceIte,reduceCtorEq]) | (refine B0 (fun h=>?_) (fun h=>?_) <;> simp (disch:=omega) only [h,amL,amT,sA,sB,sC,sD,sE,sF,sG,sH,sI,sJ,sK,sL,sM,sN,sO,↓reduceIte,reduceCtorEq])
  all_goals
   skip
   refine hK2 _ ?_
   refine Ah ?_
   try simp (disch:=omega) only [amL,↓reduceIte]
   all_goals (simp_all [Anv] <;> omega)
theorem Alt (v:Ves):Bo Try.prog 102 [avV v] (bl (Ew v)):=by
  refine Bg (v:=[]) (q:=[]) (N:=16) (rs:=[.tmp 2]) Try.func102 rfl rfl rfl rfl rfl ?_
  refine Aa fun K1 hK1=>?_
  refine Ac ?_
  simp (disch:=omega) only [amL,sA,↓reduceIte]
  refine hK1 _ ?_
  refine Aa fun K2 hK2=>?_
  refine Ac ?_
  simp (disch:=omega) only [amL,amT,sA,sB,sE,sF,↓reduceIte,reduceCtorEq]
  repeat' first | (refine Dp (fun h=>?_) (fun h=>?_) <;> simp (disch:=omega) only [h,amL,amT,sA,sB,sC,sD,sE,sF,sG,sH,sI,sJ,sK,sL,sM,sN,sO,↓reduceIte,reduceCtorEq]) | (refine B0 (fun h=>?_) (fun h=>?_) <;> simp (disch:=omega) only [h,amL,amT,sA,sB,sE,sF,↓reduceIte,reduceCtorEq]) | (refine Aq (by kernel_rfl) rfl (Ac7 ⟨_,_⟩ _ (by omega)) (by first | exact .inl rfl | exact .inr (.inl rfl)) ?_ ; simp (disch:=omega) only [amL,sA,sF,↓reduceIte]) | (refine Aq (by kernel_rfl) rfl (J8 _ _ _) (by first | exact .inl rfl | exact .inr (.inl rfl)) ?_ ; simp (disch:=omega) only [amL,sA,sF,↓reduceIte])
  all_goals
   skip
   refine hK2 _ ?_
   refine Ah ?_
   try simp (disch:=omega) only [amL,↓reduceIte]
   all_goals simp_all [Ew]
theorem Aqw {b:Er} {n:Int} {nb:Nat} {os:Nat→Option AO} {bd:Nat} (hb:os nb=some (.cells (cB b))) (hl:b.vs.length < 1000000) :
    Bi Try.prog bd (.fn (.func 145) [] [.ptr nb 0]) [i64 n] os fun res os'=>res=bl (inB n 0 ((b.vs.length:Int) - 1))∧os'=os:=by
  refine B4 (v:=[]) (q:=[]) (N:=10) (rs:=[.tmp 3]) Try.func145 rfl (by kernel_rfl) rfl rfl (fun hcl hfree=>?_)
  refine Aa fun K1 hK1=>?_
  refine Ac ?_
  simp (disch:=omega) only [amL,sA,sB]
  refine hK1 _ ?_
  refine Aa fun K2 hK2=>?_
  refine Ac ?_
  simp (disch:=omega) only [hb,amL,amT,sA,sF,↓reduceIte,reduceCtorEq]
  repeat' first | (refine Aq (by kernel_rfl) rfl (J8 _ _ _) (by first | exact .inl rfl | exact .inr (.inl rfl)) ?_ ; simp (disch:=omega) only [amL,sA,↓reduceIte])
  refine hK2 _ ?_
  refine Ah ?_
  try simp (disch:=omega) only [amL]
  refine A3 (res:=bl _) os (by simp (disch:=omega) only [amL,↓reduceIte]; try rfl) (Sub.refl _) hcl (AV.lives_p _ _) ⟨rfl,rfl⟩
theorem An1 {n:Int} {s:Stp}:F5 n s=(inB s.kind 0 2&&(inB s.frm 0 (n - 1)&&(inB s.to 0 (n - 1)&&((decide (s.frm=s.to) == !decide (s.kind=0))&&Jc s.g 60)))):=rfl
theorem Baz (b:Er) (s:Stp) (hl:b.vs.length < 1000000):Bo Try.prog 97 [avB b,avS s] (bl (F5 b.vs.length s)):=by
  refine Bg (v:=[]) (q:=[]) (N:=38) (rs:=[.tmp 4]) Try.func97 rfl rfl rfl rfl rfl ?_
  obtain ⟨e,he⟩:∃ e:Bool,(decide (s.frm=s.to) == decide (s.kind≠0))=e:=⟨_,rfl⟩
  refine Aa fun K1 hK1=>?_
  refine Ac ?_
  simp (disch:=omega) only [amL,sA,sB,sF,↓reduceIte,reduceCtorEq]
  refine hK1 _ ?_
  refine Aa fun K2 hK2=>?_
  refine Ac ?_
  simp (disch:=omega) only [amL,sA,sF,↓reduceIte]
  refine hK2 _ ?_
  refine Aa fun K3 hK3=>?_
  refine Ac ?_
  simp (disch:=omega) only [amL,amT,sA,sF,↓reduceIte,reduceCtorEq]
  repeat' first | (refine Dp (fun h=>?_) (fun h=>?_) <;> simp (disch:=omega) only [h,he,amL,amT,sA,sB,sC,sD,sE,sF,sG,sH,sI,sJ,sK,sL,sM,sN,sO,↓reduceIte,reduceCtorEq]) | (refine B0 (fun h=>?_) (fun h=>?_) <;> simp (disch:=omega) only [h,he,amL,amT,sA,sB,sF,↓reduceIte,reduceCtorEq]) | (refine Aq (by kernel_rfl) rfl (J8 _ _ _) (by first | exact .inl rfl | exact .inr (.inl rfl)) ?_ ; simp (disch:=omega) only [amL,sA,↓reduceIte]) | (refine Aq (by kernel_rfl) rfl (Ac7 ⟨_,_⟩ _ (by omega)) (by first | exact .inl rfl | exact .inr (.inl rfl)) ?_ ; simp (disch:=omega) only [amL,sA,sF,↓reduceIte]) | (refine Cd (bd:=38) (by decide) (Aqw (b:=b) rfl hl) (Lg rfl) (by decide) rfl ?_ ; simp (disch:=omega) only [amL,sA,sF,↓reduceIte])
  all_goals
   skip
   refine hK3 _ ?_
   refine Ah ?_
   try simp (disch:=omega) only [amL,↓reduceIte]
   all_goals simp_all [An1]
theorem Asb {os:Nat→Option AO} {n m:Nat} {x y:Option AO} (hm:os m=none) (hne:n≠m):Sub (upd os n x) (upd (upd os m y) n x):=fun k=>by
  by_cases e:k=n
  · subst e; right; rw [Bd,Bd]
  · rw [Ad e,Ad e]
    by_cases e2:k=m
    · subst e2; left; exact hm
    · right; rw [Ad e2]
theorem Rm {os:Nat→Option AO} {n:Nat} {x:Option AO} (h:os n=x):upd os n x=os:=by
  funext k; by_cases e:k=n
  · subst e; rw [Bd,h]
  · rw [Ad e]
theorem Ph {v:List Liq} {i:Nat} {x:AV} (h:(cW v)[i]?=some x):x.isP=true:=by
  unfold cW at h
  rw [List.getElem?_map,Option.map_eq_some_iff] at h
  obtain ⟨n,_,rfl⟩:=h
  rfl
theorem Ql {v w:List Liq} {tl:List AV} {nv:Nat} {os:Nat→Option AO} (hcl:(Hp os).closed) (ov:os nv=some (.cells (cW v++tl))):(Hp (upd os nv (some (.cells (cW w++tl))))).closed:=by
  refine Ct hcl (AO.lives_cells.2 fun i x hx=>?_)
  have hm:∀ m,(os m).isSome=true→(upd os nv (some (.cells (cW w++tl))) m).isSome=true:=fun m hm=>by
    by_cases e:m=nv
    · subst e; rw [Bd]; rfl
    · rw [Ad e]; exact hm
  by_cases h:i < (cW w).length
  · rw [List.getElem?_append_left h] at hx; exact A5 _ (Ph hx)
  · rw [List.getElem?_append_right (by omega)] at hx
    have h2:=AO.lives_cells.1 (hcl.2 nv _ ov) ((cW v).length+(i - (cW w).length)) x (by rw [List.getElem?_append_right (by omega)]; rw [← hx]; congr 1; omega)
    exact AV.lives_mono hm h2
theorem Lv {g e:Int} (h1:0≤g) (h2:g≤1000000) (h3:0≤e) (h4:e≤1000000000):-9223372036854775808≤(2 * e+g) / (2 * g)∧(2 * e+g) / (2 * g) < 9223372036854775808:=by
  have e1:0≤(2 * e+g) / (2 * g):=Int.ediv_nonneg (by omega) (by omega)
  have e2:=Int.ediv_le_self (2 * g) (show 0≤2 * e+g by omega)
  omega
theorem Afi {n e g:Int} (h1:0≤n) (h2:n≤1000000) (h3:0≤e) (h4:e≤1000000000) (_:0 < g):(0≤n * e∧n * e≤1000000000000000)∧True:=by
  refine ⟨⟨Int.mul_nonneg h1 h3,?_⟩,trivial⟩
  have:=Int.mul_le_mul h2 h4 h3 (by omega)
  omega
theorem Xt (l:Liq) (h:Rz l):Bo Try.prog 63 [avL l] (i64 (Q6 l)):=by
  obtain ⟨⟨h1,h2⟩,h3,h4⟩:=h
  refine Bg (v:=[]) (q:=[]) (N:=16) (rs:=[.tmp 2]) Try.func63 rfl rfl rfl rfl rfl ?_
  refine Aa fun K1 hK1=>?_
  refine Ac ?_
  simp (disch:=omega) only [amL,sA,↓reduceIte]
  refine hK1 _ ?_
  refine Aa fun K2 hK2=>?_
  refine Aa fun K3 hK3=>?_
  refine Ac ?_
  simp (disch:=omega) only [amL,amT,sA,sF,↓reduceIte,reduceCtorEq]
  refine hK3 _ ?_
  refine Aj rfl (fun h=>?_) (fun h=>?_)
  ·first
   | exact Bool.noConfusion h
   |skip
    try simp only [decide_eq_true_eq] at h
    refine Aa fun K4 hK4=>?_
    refine Ac ?_
    simp (disch:=omega) only [amL,sA]
    refine hK4 _ ?_
    refine Ah ?_
    try simp (disch:=omega) only [amL,↓reduceIte]
    first | (unfold Q6; rw [if_pos h]; done) | (unfold Q6; rw [if_neg h,Em (Lv h1 h2 h3 h4).1 (Lv h1 h2 h3 h4).2])
  ·first
   | exact Bool.noConfusion h
   |skip
    try simp only [decide_eq_false_iff_not] at h
    refine Ak ?_
    refine hK2 _ ?_
    refine Aa fun K5 hK5=>?_
    refine Ac ?_
    simp (disch:=omega) only [amL,amT,sA,sF,↓reduceIte,reduceCtorEq]
    refine hK5 _ ?_
    refine Ah ?_
    try simp (disch:=omega) only [amL,↓reduceIte]
    first | (unfold Q6; rw [if_pos h]; done) | (unfold Q6; rw [if_neg h,Em (Lv h1 h2 h3 h4).1 (Lv h1 h2 h3 h4).2])
theorem Asi {v:List Liq} {tl:List AV} {s:Stp} {n:Int} {nv:Nat} {os:Nat→Option AO} {bd:Nat} (hw:Hd v) (hs:0≤s.to∧s.to.toNat < v.length∧s.to < 4) (hn:0≤n∧n≤1000000) (ov:os nv=some (.cells (cW v++tl))) :
    Bi Try.prog bd (.fn (.func 138) [] []) [.ptr nv 0,avS s,i64 n] os fun res os'=>res=bl (Pm v s.to.toNat n).2∧os'=upd os nv (some (.cells (cW (Pm v s.to.toNat n).1++tl))):=by
  refine B4 (v:=[]) (q:=[]) (N:=19) (rs:=[.tmp 6]) Try.func138 rfl (by kernel_rfl) rfl rfl (fun hcl hfree=>?_)
  have hfr0:∀ k,os (bd+k)=none:=fun k=>hfree _ (by omega)
  have hlt:=Ap hfree ov
  obtain ⟨⟨h1,h2⟩,h3,h4⟩:=hw s.to.toNat
  refine Aa fun K1 hK1=>?_
  refine Ac ?_
  simp (disch:=omega) only [hfr0,amL,sA,sB,↓reduceIte,reduceCtorEq]
  refine hK1 _ ?_
  refine Aa fun K2 hK2=>?_
  refine Cb (by kernel_rfl) (by kernel_rfl) ?_
  simp (disch:=omega) only [ov,Ad,tkG,Aaw,Gy,amL,amT,sA,sF,sH,↓reduceIte,reduceCtorEq]
  refine hK2 _ ?_
  refine Aa fun K3 hK3=>?_
  refine Ac ?_
  simp (disch:=omega) only [amL,sA]
  refine hK3 _ ?_
  refine Ah ?_
  try simp (disch:=omega) only [amL]
  refine A3 (res:=bl _) (upd os nv (some (.cells (cW (Pm v s.to.toNat n).1++tl)))) (by simp (disch:=omega) only [amL,↓reduceIte]; try rfl) (Asb (hfr0 _) (by omega)) (Ql hcl ov) (AV.lives_p _ _) ⟨rfl,rfl⟩
theorem Ba3 {v:List Liq} {tl:List AV} {s:Stp} {n:Int} {nv:Nat} {os:Nat→Option AO} {bd:Nat} (hw:Hd v) (hs:0≤s.frm∧s.frm.toNat < v.length∧s.frm < 4) (hn:0≤n∧n≤1000000) (ov:os nv=some (.cells (cW v++tl))) :
    Bi Try.prog bd (.fn (.func 139) [] []) [.ptr nv 0,avS s,i64 n] os fun res os'=>res=bl (X7 v s.frm.toNat n).2∧os'=upd os nv (some (.cells (cW (X7 v s.frm.toNat n).1++tl))):=by
  refine B4 (v:=[]) (q:=[]) (N:=39) (rs:=[.tmp 6]) Try.func139 rfl (by kernel_rfl) rfl rfl (fun hcl hfree=>?_)
  have hfr0:∀ k,os (bd+k)=none:=fun k=>hfree _ (by omega)
  have hlt:=Ap hfree ov
  obtain ⟨⟨h1,h2⟩,h3,h4⟩:=hw s.frm.toNat
  refine Aa fun K1 hK1=>?_
  refine Ac ?_
  simp (disch:=(first | omega | (simp only [List.length_set]; omega))) only [hfr0,amL,sA,sB,↓reduceIte,reduceCtorEq]
  refine hK1 _ ?_
  refine Aa fun K2 hK2=>?_
  refine Cb (by kernel_rfl) (by kernel_rfl) ?_
  simp (disch:=(first | omega | (simp only [List.length_set]; omega))) only [ov,Ad,Dl,Aaw,Gy,amL,amT,sA,sF,sH,↓reduceIte,reduceCtorEq]
  refine hK2 _ ?_
  refine Aa fun K3 hK3=>?_
  refine Cb (by kernel_rfl) (by kernel_rfl) ?_
  simp (disch:=(first | omega | (simp only [List.length_set]; omega))) only [hfr0,Ad,Dl,Gy,Jo,amL,amT,sA,sB,sE,sF,sH,↓reduceIte,reduceCtorEq]
  refine hK3 _ ?_
  refine Aa fun K4 hK4=>?_
  refine Ac ?_
  simp (disch:=(first | omega | (simp only [List.length_set]; omega))) only [amL,amT,sA,↓reduceIte,reduceCtorEq]
  repeat' first | (refine Dp (fun h=>?_) (fun h=>?_) <;> simp (disch:=(first | omega | (simp only [List.length_set]; omega))) only [h,amL,amT,sA,sF,↓reduceIte,reduceCtorEq]) | (refine B0 (fun h=>?_) (fun h=>?_) <;> simp (disch:=(first | omega | (simp only [List.length_set]; omega))) only [h,ov,hfr0,Ad,Dl,Jg,Aaw,Gy,Jo,amL,amT,sA,sB,sC,sD,sE,sF,sG,sH,sI,sJ,sK,sL,sM,sN,sO,↓reduceIte,reduceCtorEq])
  all_goals
   skip
   refine hK4 _ ?_
   refine Ah ?_
   try simp (disch:=(first | omega | (simp only [List.length_set]; omega))) only [amL]
   refine A3 (res:=bl _) (upd os nv (some (.cells (cW (v.set s.frm.toNat ⟨_,(v.getD s.frm.toNat default).e⟩)++tl)))) (by simp (disch:=(first | omega | (simp only [List.length_set]; omega))) only [amL,↓reduceIte]; try rfl) (by first | ((repeat' first | exact Sub.refl _ | refine Sub.skip (by first | exact hfr0 _ | (simp (disch:=omega) only [Ad]; exact hfr0 _)) ?_ | refine Sub.both ?_); done) | fail) (Ql hcl ov) (AV.lives_p _ _) ⟨?_,?_⟩
   all_goals (unfold X7; simp_all)
theorem Bbq {v:List Liq} {tl:List AV} {s:Stp} {n:Int} {nv:Nat} {os:Nat→Option AO} {bd:Nat} (hw:Hd v) (hs:0≤s.frm∧s.frm.toNat < v.length∧s.frm < 4) (ht:0≤s.to∧s.to.toNat < v.length∧s.to < 4) (hn:0≤n∧n≤1000000) (ov:os nv=some (.cells (cW v++tl))) :
    Bi Try.prog bd (.fn (.func 137) [] []) [.ptr nv 0,avS s,i64 n] os fun res os'=>res=bl (Fg v s.frm.toNat s.to.toNat n).2∧os'=upd os nv (some (.cells (cW (Fg v s.frm.toNat s.to.toNat n).1++tl))):=by
  refine B4 (v:=[]) (q:=[]) (N:=69) (rs:=[.tmp 6]) Try.func137 rfl (by kernel_rfl) rfl rfl (fun hcl hfree=>?_)
  have hfr0:∀ k,os (bd+k)=none:=fun k=>hfree _ (by omega)
  have hlt:=Ap hfree ov
  obtain ⟨⟨h1,h2⟩,h3,h4⟩:=hw s.frm.toNat
  obtain ⟨⟨k1,k2⟩,k3,k4⟩:=hw s.to.toNat
  refine Aa fun K1 hK1=>?_
  refine Ac ?_
  simp (disch:=(first | omega | (simp only [List.length_set]; omega))) only [hfr0,amL,sA,sB,↓reduceIte,reduceCtorEq]
  refine hK1 _ ?_
  refine Aa fun K2 hK2=>?_
  refine Cb (by kernel_rfl) (by kernel_rfl) ?_
  simp (disch:=(first | omega | (simp only [List.length_set]; omega))) only [amL,amT,sA,sF,sH,↓reduceIte,reduceCtorEq]
  refine hK2 _ ?_
  refine Aa fun K3 hK3=>?_
  refine Aa fun K4 hK4=>?_
  refine Ac ?_
  simp (disch:=(first | omega | (simp only [List.length_set]; omega))) only [ov,Ad,Dl,amL,amT,sA,sF,↓reduceIte,reduceCtorEq]
  refine hK4 _ ?_
  refine Aj rfl (fun h=>?_) (fun h=>?_)
  ·first
   | exact Bool.noConfusion h
   |skip
    try simp only [decide_eq_true_eq] at h
    refine Aa fun K5 hK5=>?_
    refine Ac ?_
    simp (disch:=(first | omega | (simp only [List.length_set]; omega))) only [amL,sA]
    refine hK5 _ ?_
    refine Ah ?_
    try simp (disch:=(first | omega | (simp only [List.length_set]; omega))) only [amL]
    first | (refine A3 (res:=bl _) os (by simp (disch:=(first | omega | (simp only [List.length_set]; omega))) only [amL,↓reduceIte]; try rfl) (by first | ((repeat' first | exact Sub.refl _ | refine Sub.skip (by first | exact hfr0 _ | (simp (disch:=omega) only [Ad]; exact hfr0 _)) ?_ | refine Sub.both ?_); done) | fail) hcl (AV.lives_p _ _) ⟨?_,?_⟩ ; all_goals first | (rw [Fg,if_pos h]; done) | (rw [Fg,if_pos h,Rm ov]; done) | (rw [Fg,if_neg (by assumption),if_neg h]; done) | (rw [Fg,if_neg (by assumption),if_neg h,Rm ov]; done)) | (refine A3 (res:=bl _) (upd os nv (some (.cells (cW (Lr v s.frm.toNat s.to.toNat n)++tl)))) (by simp (disch:=(first | omega | (simp only [List.length_set]; omega))) only [ov,hfr0,Ad,Dl,Jg,Aaw,Ajr,Gy,Jo,List.set_set,Bw,amL,amT,sA,sB,sC,sD,sE,sF,sG,sH,sI,sJ,sK,sL,sM,sN,sO,↓reduceIte,reduceCtorEq]; try rfl) (by first | ((repeat' first | exact Sub.refl _ | refine Sub.skip (by first | exact hfr0 _ | (simp (disch:=omega) only [Ad]; exact hfr0 _)) ?_ | refine Sub.both ?_); done) | fail) (Ql hcl ov) (AV.lives_p _ _) ⟨?_,?_⟩ ; all_goals (rw [Fg,if_neg (by assumption),if_pos h])) | trace_state
  ·first
   | exact Bool.noConfusion h
   |skip
    try simp only [decide_eq_false_iff_not] at h
    refine Ak ?_
    refine hK3 _ ?_
    refine Aa fun K6 hK6=>?_
    refine Aa fun K7 hK7=>?_
    refine Ac ?_
    simp (disch:=(first | omega | (simp only [List.length_set]; omega))) only [amL,amT,sA,sF,↓reduceIte,reduceCtorEq]
    refine hK7 _ ?_
    refine Aj rfl (fun h=>?_) (fun h=>?_)
    ·first
     | exact Bool.noConfusion h
     |skip
      try simp only [decide_eq_true_eq] at h
      refine Aa fun K8 hK8=>?_
      refine Cb (by kernel_rfl) (by kernel_rfl) ?_
      have hg:0 < (v.getD s.frm.toNat default).g:=by omega
      have hb:=Afi (n:=n) hn.1 hn.2 h3 h4 hg
      have hm:IntKind.i64.wrap (n * (v.getD s.frm.toNat default).e)=n * (v.getD s.frm.toNat default).e:=Em (by omega) (by omega)
      have htd:(n * (v.getD s.frm.toNat default).e).tdiv (v.getD s.frm.toNat default).g=He v s.frm.toNat n:=Int.tdiv_eq_ediv_of_nonneg hb.1.1
      have hx:=Vy (n:=n) hn.1 (show n≤(v.getD s.frm.toNat default).g by omega) h3 hg
      have hx1:0≤He v s.frm.toNat n:=hx.1
      have hx2:He v s.frm.toNat n≤(v.getD s.frm.toNat default).e:=hx.2
      obtain ⟨⟨q1,q2⟩,q3,q4⟩:=Ajd (k:=s.frm.toNat) (a:=⟨(v.getD s.frm.toNat default).g - n,(v.getD s.frm.toNat default).e - He v s.frm.toNat n⟩) hw ⟨⟨show 0≤(v.getD s.frm.toNat default).g - n by omega,show (v.getD s.frm.toNat default).g - n≤1000000 by omega⟩,show 0≤(v.getD s.frm.toNat default).e - He v s.frm.toNat n by omega,show (v.getD s.frm.toNat default).e - He v s.frm.toNat n≤1000000000 by omega⟩ s.to.toNat
      simp (disch:=(first | omega | (simp only [List.length_set]; omega))) only [hm,htd,ov,Ad,Dl,Jg,amL,amT,sA,sF,↓reduceIte,reduceCtorEq]
      refine hK8 _ ?_
      refine Aa fun K9 hK9=>?_
      refine Cb (by kernel_rfl) (by kernel_rfl) ?_
      simp (disch:=(first | omega | (simp only [List.length_set]; omega))) only [ov,Ad,Dl,Jg,Aaw,Ajr,Gy,Jo,List.set_set,amL,amT,sA,sB,sE,sF,↓reduceIte,reduceCtorEq]
      refine hK9 _ ?_
      refine Cb (by kernel_rfl) (by kernel_rfl) ?_
      simp (disch:=(first | omega | (simp only [List.length_set]; omega))) only [Dl,Jg,Aaw,Ajr,Gy,Jo,List.set_set,Bw,amL,amT,sA,sB,sE,sF,↓reduceIte,reduceCtorEq]
      refine hK6 _ ?_
      refine Aa fun K10 hK10=>?_
      refine Ac ?_
      simp (disch:=(first | omega | (simp only [List.length_set]; omega))) only [amL,sA]
      refine hK10 _ ?_
      refine Ah ?_
      try simp (disch:=(first | omega | (simp only [List.length_set]; omega))) only [amL]
      first | (refine A3 (res:=bl _) os (by simp (disch:=(first | omega | (simp only [List.length_set]; omega))) only [amL,↓reduceIte]; try rfl) (by first | ((repeat' first | exact Sub.refl _ | refine Sub.skip (by first | exact hfr0 _ | (simp (disch:=omega) only [Ad]; exact hfr0 _)) ?_ | refine Sub.both ?_); done) | fail) hcl (AV.lives_p _ _) ⟨?_,?_⟩ ; all_goals first | (rw [Fg,if_pos h]; done) | (rw [Fg,if_pos h,Rm ov]; done) | (rw [Fg,if_neg (by assumption),if_neg h]; done) | (rw [Fg,if_neg (by assumption),if_neg h,Rm ov]; done)) | (refine A3 (res:=bl _) (upd os nv (some (.cells (cW (Lr v s.frm.toNat s.to.toNat n)++tl)))) (by simp (disch:=(first | omega | (simp only [List.length_set]; omega))) only [amL,↓reduceIte]; try rfl) (by first | ((repeat' first | exact Sub.refl _ | refine Sub.skip (by first | exact hfr0 _ | (simp (disch:=omega) only [Ad]; exact hfr0 _)) ?_ | refine Sub.both ?_); done) | fail) (Ql hcl ov) (AV.lives_p _ _) ⟨?_,?_⟩ ; all_goals (rw [Fg,if_neg (by assumption),if_pos h])) | trace_state
    ·first
     | exact Bool.noConfusion h
     |skip
      try simp only [decide_eq_false_iff_not] at h
      refine Ak ?_
      refine hK6 _ ?_
      refine Aa fun K11 hK11=>?_
      refine Ac ?_
      simp (disch:=(first | omega | (simp only [List.length_set]; omega))) only [amL,sA]
      refine hK11 _ ?_
      refine Ah ?_
      try simp (disch:=(first | omega | (simp only [List.length_set]; omega))) only [amL]
      first | (refine A3 (res:=bl _) os (by simp (disch:=(first | omega | (simp only [List.length_set]; omega))) only [amL,↓reduceIte]; try rfl) (by first | ((repeat' first | exact Sub.refl _ | refine Sub.skip (by first | exact hfr0 _ | (simp (disch:=omega) only [Ad]; exact hfr0 _)) ?_ | refine Sub.both ?_); done) | fail) hcl (AV.lives_p _ _) ⟨?_,?_⟩ ; all_goals first | (rw [Fg,if_pos h]; done) | (rw [Fg,if_pos h,Rm ov]; done) | (rw [Fg,if_neg (by assumption),if_neg h]; done) | (rw [Fg,if_neg (by assumption),if_neg h,Rm ov]; done)) | (refine A3 (res:=bl _) (upd os nv (some (.cells (cW (Lr v s.frm.toNat s.to.toNat n)++tl)))) (by simp (disch:=(first | omega | (simp only [List.length_set]; omega))) only [ov,hfr0,Ad,Dl,Jg,Aaw,Ajr,Gy,Jo,List.set_set,Bw,amL,amT,sA,sB,sC,sD,sE,sF,sG,sH,sI,sJ,sK,sL,sM,sN,sO,↓reduceIte,reduceCtorEq]; try rfl) (by first | ((repeat' first | exact Sub.refl _ | refine Sub.skip (by first | exact hfr0 _ | (simp (disch:=omega) only [Ad]; exact hfr0 _)) ?_ | refine Sub.both ?_); done) | fail) (Ql hcl ov) (AV.lives_p _ _) ⟨?_,?_⟩ ; all_goals (rw [Fg,if_neg (by assumption),if_pos h])) | trace_state
theorem Az2:Kg Try.prog 256 14:=Aox (by kernel_rfl)
def Anl:Value:=.agg #[.int .i64 0,.int .i64 0,.int .i64 0,.int .i64 0,.int .i64 0,.int .i64 0,.int .i64 0,.int .i64 0,.bool false]
theorem Ayn:∀ w,(zeroValue 258).run Try.prog w=.ok Anl w:=fun w=>by
  have h:(Try.prog.info? 258).map (fun i=>i.zero)=some (some Anl):=by kernel_rfl
  cases hi:Try.prog.info? 258 with
  | none=>rw [hi] at h; cases h
  | some i=>
    rw [hi] at h
    have hz:i.zero=some Anl:=by simpa using h
    simp [zeroValue,typeInfo,hi,hz]
theorem Un:Be Anl=.agg [i64 0,i64 0,i64 0,i64 0,i64 0,i64 0,i64 0,i64 0,bl false]:=rfl
abbrev Ah0:List AV:=[.fn (.func 137) [] [],.fn (.func 138) [] [],.fn (.func 139) [] []]
abbrev Aip (k:Int):AV:=.fn (.func (if k=0 then 137 else if k=1 then 138 else 139)) [] []
theorem An0:Bo Try.prog 89 [] (.agg Ah0):=by
  refine Bg (v:=[]) (q:=[]) (N:=5) (rs:=[.cell 0 205]) Try.func89 rfl rfl rfl rfl rfl ?_
  refine Aa fun K1 hK1=>?_
  refine Ac ?_
  simp (disch:=omega) only [amL,amT,sA,sB,↓reduceIte]
  refine hK1 _ ?_
  refine Aa fun K2 hK2=>?_
  refine Ac ?_
  simp (disch:=omega) only [amL,amT,sA,sB,sE,sF,↓reduceIte,reduceCtorEq]
  refine hK2 _ ?_
  refine Ah ?_
  try simp (disch:=omega) only [Alm,amL,amT,sB,↓reduceIte,reduceCtorEq]
  skip
theorem Yt {esz:Nat→Nat} {ea:Nat→Option Bool} {k:Int} (hz:esz 204=1) (he:ea 204=some true) (h0:0≤k) (h3:k≤2):Ae5 esz ea (.agg Ah0) (.arr 3 204) (i64 k)=some (.pure (.agg [Aip k])):=by
  have hk4:k=0∨k=1∨k=2:=by omega
  simp only [Ae5,he,hz]
  rcases hk4 with rfl | rfl | rfl <;> rfl
theorem Bez {v:List Liq} {tl:List AV} {s:Stp} {n:Int} {nv:Nat} {os:Nat→Option AO} {bd:Nat} (_:0≤s.kind∧s.kind≤2) (hw:Hd v) (hs:0≤s.frm∧s.frm.toNat < v.length∧s.frm < 4) (ht:0≤s.to∧s.to.toNat < v.length∧s.to < 4) (hn:0≤n∧n≤1000000) (ov:os nv=some (.cells (cW v++tl))) :
    Bi Try.prog bd (Aip s.kind) [.ptr nv 0,avS s,i64 n] os fun res os'=>res=bl (G2 v s n).2∧os'=upd os nv (some (.cells (cW (G2 v s n).1++tl))):=by
  unfold Aip G2
  split
  · exact Bbq hw hs ht hn ov
  · split
    · exact Asi hw ht hn ov
    · exact Ba3 hw hs hn ov
structure Wk (vs:List Ves) (ss:List Stp) (nw m:Nat) (os:Nat→Option AO):Prop where
  ow:os nw=some (.cells [.p (slV vs),.p (slS ss),.mp m])
  om:os m=some (.obj (Gh 14 (Sl vs)))
theorem D1 (v:List Liq) (b:Bool):(AV.tup [avW v,bl b]).isP=true:=by
  have h:AV.isP.isPL (cW v)=true:=(Jl _).2 fun i x hx=>Ph hx
  simp only [AV.isP,AV.isP.isPL,h,Bool.and_self]
theorem Gq {P:Program} {s:St} {i j n off:Nat} {ty:TypeId} {g:Bool} {cs:List AV} {x:AV} (h1:s.t i=.ptr n off) (h2:(Ab P ty).agg=some g) (h3:s.o n=some (.cells cs)) (h4:Ai g (Ab P ty).sz (cs.drop off)=some x):(Cw P s [.cell i ty,.tmp j]).map Dg=some (.tup [x,s.t j]):=by
  simp only [Cw,F8,h1,h2,h3,h4,Option.map_some]; rfl
theorem Bg1 {vs:List Ves} {ss:List Stp} {v:List Liq} {s:Stp} {n:Int} {nw m:Nat} {os:Nat→Option AO} {bd:Nat} (hW:Wk vs ss nw m os) (hv4:v.length=4) (hw:Hd v) (hvs:vs.length≤4) (hk:0≤s.kind∧s.kind≤2) (hs:0≤s.frm∧s.frm < vs.length) (ht:0≤s.to∧s.to < vs.length) (hn:0≤n∧n≤1000000) (hkd:(kD s n v).all inR=true) :
    Bi Try.prog bd (.fn (.func 99) [] []) [.ptr nw 0,avW v,avS s,i64 n] os fun res os'=>res=.tup [avW (doS vs v s n).1,bl (doS vs v s n).2]∧os'=os:=by
  refine B4 (v:=[]) (q:=[]) (N:=69) (rs:=[.cell 8 166,.tmp 9]) Try.func99 rfl (by kernel_rfl) rfl rfl (fun hcl hfree=>?_)
  have hfr0:∀ k,os (bd+k)=none:=fun k=>hfree _ (by omega)
  obtain ⟨ow,om⟩:=hW
  have hlw:=Ap hfree ow
  have hlm:=Ap hfree om
  have l4:(G2 v s n).1.length=4:=by rw [Zl,hv4]
  have ld:(doS vs v s n).1.length=4:=by rw [Aa7,hv4]
  have hmc:Be (Sl vs (kD s n v))=.agg (cW (doS vs v s n).1++[bl (doS vs v s n).2]):=by unfold Sl; rw [Bau,Akt]
  have hix:Ae5 (fun e=>(Ab Try.prog e).sz) (fun e=>(Ab Try.prog e).agg) (.agg Ah0) (.arr 3 204) (i64 s.kind)=some (.pure (.agg [Aip s.kind])):=Yt (by simp only [amT]) (by simp only [amT]; rfl) hk.1 hk.2
  refine Aa fun K1 hK1=>?_
  refine Ac ?_
  simp (disch:=(first | assumption | omega | (simp only [List.length_set]; omega))) only [hfr0,Ad,amL,amT,sA,sB,sF,↓reduceIte,reduceCtorEq]
  refine hK1 _ ?_
  refine Aa fun K2 hK2=>?_
  refine Ac ?_
  simp (disch:=(first | assumption | omega | (simp only [List.length_set]; omega))) only [hfr0,Ad,Af5,Axj,Br,Bw,amL,amT,sA,sB,sE,sF,↓reduceIte,reduceCtorEq]
  refine hK2 _ ?_
  refine Aa fun K3 hK3=>?_
  refine U9 (by kernel_rfl) (by kernel_rfl) ?_
  simp (disch:=(first | assumption | omega | (simp only [List.length_set]; omega))) only [ow,Ad,Af5,Br,amL,amT,sA,sB,sF,↓reduceIte,reduceCtorEq]
  refine Aft rfl (by simp only [amT]) Ayn rfl T9 Az2 (by simp (disch:=omega) only [Ad]; exact om) Agm (Apg hv4) hkd ?_ ?_ <;> simp (disch:=(first | assumption | omega | (simp only [List.length_set]; omega))) only [hfr0,Ad,Aix,Ayg,Un,hmc,Bw,amL,amT,sA,sB,sF,↓reduceIte]
  all_goals
   skip
   refine hK3 _ ?_
   refine Aa fun K4 hK4=>?_
   refine Aa fun K5 hK5=>?_
   refine Ac ?_
   simp (disch:=(first | assumption | omega | (simp only [List.length_set]; omega))) only [amL,sA,↓reduceIte]
   refine hK5 _ ?_
   refine Aj rfl (fun h=>?_) (fun h=>?_)
   ·first
    | exact Bool.noConfusion h
    |skip
     try simp only [] at h
     refine Aa fun K6 hK6=>?_
     refine Ac ?_
     simp (disch:=(first | assumption | omega | (simp only [List.length_set]; omega))) only [Ad,Af5,Bdd,Br,Bw,amL,amT,sA,sB,sE,sF,↓reduceIte,reduceCtorEq]
     refine hK6 _ ?_
     refine Aa fun K7 hK7=>?_
     refine Cb (by kernel_rfl) (by kernel_rfl) ?_
     simp (disch:=(first | assumption | omega | (simp only [List.length_set]; omega))) only [amL]
     repeat' first | (refine Dp (fun h=>?_) (fun h=>?_) <;> simp (disch:=(first | assumption | omega | (simp only [List.length_set]; omega))) only [h,ow,om,hfr0,Ad,Af5,Aix,Axj,Bbp,Bdd,Ayg,Afa,Ber,Ams,Azi,Ba9,Aai,Br,Un,hmc,Wh,hix,Dj,Bw,Dl,Jg,amL,amT,sA,sB,sC,sD,sE,sF,sG,sH,sI,sJ,sK,sL,sM,sN,sO,↓reduceIte,reduceCtorEq]) | (refine B0 (fun h=>?_) (fun h=>?_) <;> simp (disch:=(first | assumption | omega | (simp only [List.length_set]; omega))) only [h,ow,Ad,Aix,Ber,Dj,Bw,Dl,amL,amT,sA,sB,sF,sH,↓reduceIte,reduceCtorEq]) | (refine Aq (by kernel_rfl) rfl (An0) (by first | exact .inl rfl | exact .inr (.inl rfl)) ?_ ; simp (disch:=(first | assumption | omega | (simp only [List.length_set]; omega))) only [Ad,Wh,hix,amL,amT,sA,sB,sF,↓reduceIte,reduceCtorEq]) | (refine A1 [(0,.ptr nw 0),(3,i64 n),(5,.ptr (bd+5) 0),(6,.ptr (bd+6) 0),(8,.ptr (bd+8) 0),(10,.ptr (bd+10) 0),(11,.ptr (bd+11) 0)] (by decide) (Bez (v:=v) (tl:=[bl false]) (nv:=bd+11) (bd:=bd+69) hk hw ⟨hs.1,by omega,by omega⟩ ⟨ht.1,by omega,by omega⟩ hn (by first | (simp (disch:=(first | assumption | omega | (simp only [List.length_set]; omega))) only [amL]; done) | fail)) (fun q hq=>by simp (disch:=omega) only [Ad]; exact hfree q (by omega)) (Nat.le_add_right _ _) (fun res os2 hR hcl2 hlv2=>?_) ; obtain ⟨rfl,rfl⟩:=hR ; simp (disch:=(first | assumption | omega | (simp only [List.length_set]; omega))) only [ow,Ad,Bw,amL,sA,sF,↓reduceIte,reduceCtorEq])
     all_goals
      skip
      refine hK7 _ ?_
      refine Cb (by kernel_rfl) (by kernel_rfl) ?_
      simp (disch:=(first | assumption | omega | (simp only [List.length_set]; omega))) only [ow,Ad,Af5,Aix,Azi,Br,amL,amT,sA,sB,sF,↓reduceIte,reduceCtorEq]
      all_goals (refine Aev (k:=256) (e:=258) (by simp only [amT]) Az2 (by simp (disch:=omega) only [Ad]; exact om) Agm (Apg hv4) hkd T9 (by rw [hmc]; first | (simp_all [doS]; done) | (omega)) ?_ ; simp (disch:=(first | assumption | omega | (simp only [List.length_set]; omega))) only [amL])
      all_goals
       skip
       refine hK4 _ ?_
       refine Aa fun K8 hK8=>?_
       refine Ac0 [.sto [11] 8,.sto [67] 8] (by kernel_rfl) (by kernel_rfl) ?_
       simp (disch:=(first | assumption | omega | (simp only [List.length_set]; omega))) only [Ad,Af5,Aix,Afa,Ams,Aai,amL,amT,sA,sB,sE,sF,↓reduceIte,reduceCtorEq]
       refine ⟨by simp [Cf.ok,Rn,T,AV.known,AV.clean],?_⟩
       all_goals
        skip
        refine hK8 _ ?_
        refine Ah ?_
        try simp (disch:=(first | assumption | omega | (simp only [List.length_set]; omega))) only [amL]
        all_goals (refine A3 (res:=.tup [avW (doS vs v s n).1,bl (doS vs v s n).2]) os ?_ (by first | ((repeat' first | exact Sub.refl _ | refine Sub.skip (by first | exact hfr0 _ | (simp (disch:=omega) only [Ad]; exact hfr0 _)) ?_ | refine Sub.both ?_); done) | fail) hcl (A5 _ (D1 _ _)) ⟨rfl,rfl⟩ ; refine (Gq (n:=bd+8) (off:=0) (g:=true) (cs:=cW (doS vs v s n).1) (x:=avW (doS vs v s n).1) (by simp (disch:=(first | assumption | omega | (simp only [List.length_set]; omega))) only [amL,sF,↓reduceIte,reduceCtorEq]) (by simp only [amT]; rfl) (by simp (disch:=(first | assumption | omega | (simp only [List.length_set]; omega))) only [amL]; try rfl) (by simp only [amT,List.drop_zero]; exact W9 ld)).trans ?_ ; simp (disch:=(first | assumption | omega | (simp only [List.length_set]; omega))) only [amL,↓reduceIte] ; all_goals first | rfl | (simp_all [doS]; done) | (omega))
   ·first
    | exact Bool.noConfusion h
    |skip
     try simp only [] at h
     refine Ak ?_
     refine hK4 _ ?_
     refine Aa fun K9 hK9=>?_
     refine Ac0 [.sto [11] 8,.sto [67] 8] (by kernel_rfl) (by kernel_rfl) ?_
     simp (disch:=(first | assumption | omega | (simp only [List.length_set]; omega))) only [Ad,Af5,Aix,Afa,Ams,Aai,amL,amT,sA,sB,sE,sF,↓reduceIte,reduceCtorEq]
     refine ⟨by simp [Cf.ok,Rn,T,AV.known,AV.clean],?_⟩
     all_goals
      skip
      refine hK9 _ ?_
      refine Ah ?_
      try simp (disch:=(first | assumption | omega | (simp only [List.length_set]; omega))) only [amL]
      all_goals (refine A3 (res:=.tup [avW (doS vs v s n).1,bl (doS vs v s n).2]) os ?_ (by first | ((repeat' first | exact Sub.refl _ | refine Sub.skip (by first | exact hfr0 _ | (simp (disch:=omega) only [Ad]; exact hfr0 _)) ?_ | refine Sub.both ?_); done) | fail) hcl (A5 _ (D1 _ _)) ⟨rfl,rfl⟩ ; refine (Gq (n:=bd+8) (off:=0) (g:=true) (cs:=cW (doS vs v s n).1) (x:=avW (doS vs v s n).1) (by simp (disch:=(first | assumption | omega | (simp only [List.length_set]; omega))) only [amL,sF,↓reduceIte]) (by simp only [amT]; rfl) (by simp (disch:=(first | assumption | omega | (simp only [List.length_set]; omega))) only [amL]; try rfl) (by simp only [amT,List.drop_zero]; exact W9 ld)).trans ?_ ; simp (disch:=(first | assumption | omega | (simp only [List.length_set]; omega))) only [amL,↓reduceIte] ; all_goals first | rfl | (simp_all [doS]; done) | (omega))
theorem Gc {os:Nat→Option AO} {n:Nat} {cs:List AV} (hcl:(Hp os).closed) (h:∀ x ∈ cs,x.isP=true):(Hp (upd os n (some (.cells cs)))).closed:=
  Ct hcl (AO.lives_cells.2 fun _ x hx=>A5 _ (h x (List.mem_of_getElem? hx)))
theorem Ee {os:Nat→Option AO} {n:Nat} {v:List Liq} (hcl:(Hp os).closed):(Hp (upd os n (some (.cells (cW v))))).closed:=Gc hcl fun x hx=>by
  obtain ⟨i,hi⟩:=List.mem_iff_getElem?.1 hx
  exact Ph hi
theorem Ys {vs:List Ves} {k:Nat} (h:k < vs.length):vs.drop k=vs.getD k default :: vs.drop (k+1):=Acb default h
theorem U8 {vs:List Ves} {gs ds:List Int} {k:Nat} {v:List Liq} {R:List Liq × Bool} (h:k < vs.length) (h2:(vs.getD k default).room < gs.getD k 0) (hr:Gu (vs.drop k) gs ds k v=R):R=(v,false):=by
  rw [Ys h] at hr; unfold Gu at hr; rw [if_pos h2] at hr; exact hr.symm
theorem Aee {vs:List Ves} {gs ds:List Int} {k:Nat} {v:List Liq} {R:List Liq × Bool} (h:k < vs.length) (h2:¬ (vs.getD k default).room < gs.getD k 0) (hr:Gu (vs.drop k) gs ds k v=R):Gu (vs.drop (k+1)) gs ds (k+1) (v.set k ⟨gs.getD k 0,gs.getD k 0 * ds.getD k 0⟩)=R:=by
  rw [Ys h] at hr; unfold Gu at hr; rw [if_neg h2] at hr; exact hr
theorem Yr {vs:List Ves} {gs ds:List Int} {k:Nat} {v:List Liq} {R:List Liq × Bool} (h:vs.length≤k) (hr:Gu (vs.drop k) gs ds k v=R):R=(v,true):=by
  rw [List.drop_of_length_le h] at hr; exact hr.symm
theorem Asj {a b:Int} (h1:0≤a∧a≤100000) (h2:0≤b∧b≤100000):0≤a * b∧a * b≤10000000000:=by
  have e1:=Int.mul_nonneg h1.1 h2.1
  have e2:=Int.mul_le_mul h1.2 h2.2 h2.1 (by omega)
  omega
theorem Ds {b:Er} {os:Nat→Option AO} {bd:Nat} :
    Bi Try.prog bd (.fn (.func 61) [] []) [avB b] os fun res os'=>res=.ptr (bd+6) 0∧os'=upd (upd os (bd+4) (some (.obj (Gh 14 (Sl b.vs))))) (bd+6) (some (.cells [.p (slV b.vs),.p (slS b.ss),.mp (bd+4)])):=by
  refine B4 (v:=[]) (q:=[]) (N:=7) (rs:=[.tmp 2]) Try.func61 rfl (by kernel_rfl) rfl rfl (fun hcl hfree=>?_)
  have hfr0:∀ k,os (bd+k)=none:=fun k=>hfree _ (by omega)
  refine Aa fun K1 hK1=>?_
  refine Ac ?_
  simp (disch:=omega) only [hfr0,amL,sA,↓reduceIte]
  refine hK1 _ ?_
  refine Aa fun K2 hK2=>?_
  refine Ac ?_
  simp (disch:=omega) only [amL,amT,sA,sB,sF,↓reduceIte]
  refine Afc 14 (Sl b.vs) (by decide) (by simp (disch:=omega) only [hfr0,Ad]) ?_
  simp (disch:=omega) only [hfr0,Ad,amL,amT,sA,sB,sE,sF,↓reduceIte]
  all_goals
   skip
   refine hK2 _ ?_
   refine Ah ?_
   try simp (disch:=omega) only [amL]
   refine A3 (res:=.ptr (bd+6) 0) (upd (upd os (bd+4) (some (.obj (Gh 14 (Sl b.vs))))) (bd+6) (some (.cells [.p (slV b.vs),.p (slS b.ss),.mp (bd+4)]))) rfl (by first | ((repeat' first | exact Sub.refl _ | refine Sub.skip (by first | exact hfr0 _ | (simp (disch:=omega) only [Ad]; exact hfr0 _)) ?_ | refine Sub.both ?_); done) | fail) (Ct (Ct hcl (AO.lives_obj _ _)) ?_) ?_ ⟨rfl,rfl⟩
   · rw [Dv]; simp (disch:=omega) only [Cr,Cm,T3,S4,Ad,Bd,Option.isSome_some,and_self]
   · rw [C5]; simp only [Bd,Option.isSome_some]
theorem Ahf {vs:List Ves} {ss:List Stp} {gs ds:List Int} {nw m:Nat} {os:Nat→Option AO} {bd:Nat} (hW:Wk vs ss nw m os) (hvs:vs.length≤4) (hg1:gs.length=vs.length) (hd1:ds.length=vs.length) (hg:∀ k,0≤gs.getD k 0∧gs.getD k 0≤100000) (hd:∀ k,0≤ds.getD k 0∧ds.getD k 0≤100000) :
    Bi Try.prog bd (.fn (.func 116) [] []) [.ptr nw 0,isl gs,isl ds] os fun res os'=>res=.tup [avW (M9 vs gs ds).1,bl (M9 vs gs ds).2]∧os'=os:=by
  refine B4 (v:=[]) (q:=[]) (N:=47) (rs:=[.cell 6 166,.tmp 7]) Try.func116 rfl (by kernel_rfl) rfl rfl (fun hcl hfree=>?_)
  have hfr0:∀ k,os (bd+k)=none:=fun k=>hfree _ (by omega)
  obtain ⟨ow,om⟩:=hW
  have hlw:=Ap hfree ow
  refine Aa fun K1 hK1=>?_
  refine Ac ?_
  simp (disch:=(first | assumption | omega | (simp only [List.length_set]; omega))) only [hfr0,amL,amT,sA,sB,↓reduceIte]
  refine hK1 _ ?_
  refine Aa fun K2 hK2=>?_
  refine Aa fun K3 hK3=>?_
  refine Ac ?_
  simp (disch:=(first | assumption | omega | (simp only [List.length_set]; omega))) only [ow,Ad,amL,amT,sA,↓reduceIte,reduceCtorEq]
  refine hK3 _ ?_
  refine Am ?_
  skip
  refine Bb (α:=Nat × List Liq) (fun x=>⟨T [(0,.ptr nw 0),(1,isl gs),(2,isl ds),(6,.ptr (bd+6) 0),(14,.p (slV vs)),(15,i64 vs.length),(16,i64 (x.1:Int))],upd os (bd+6) (some (.cells (cW x.2)))⟩) (fun x=>vs.length - x.1) (fun x=>x.1≤vs.length∧x.2.length=4∧Gu (vs.drop x.1) gs ds x.1 x.2=M9 vs gs ds) (0,v0) ?_ ?_ (fun x hx4 K4 hK4=>?_)
  · exact ⟨by simp,rfl,rfl⟩
  · refine Gd ?_ ?_ ?_ ?_ <;> (try simp (disch:=(first | assumption | omega | (simp only [List.length_set]; omega))) only [ow,Ad,amL,sF,↓reduceIte,reduceCtorEq]); all_goals first | rfl | exact Ee hcl | exact (by first | ((repeat' first | exact Sub.refl _ | refine Sub.skip (by first | exact hfr0 _ | (simp (disch:=omega) only [Ad]; exact hfr0 _)) ?_ | refine Sub.both ?_); done) | fail) | trace_state
  obtain ⟨k,v⟩:=x; dsimp only at hx4 ⊢; obtain ⟨hk,hv4,hr⟩:=hx4; have hgk:=hg k; have hdk:=hd k; have hmu:=Asj hgk hdk
  refine Aa fun K5 hK5=>?_
  refine Ac ?_
  simp (disch:=(first | assumption | omega | (simp only [List.length_set]; omega))) only [amL,amT,sA,sF,↓reduceIte,reduceCtorEq]
  refine hK5 _ ?_
  refine Aa fun K6 hK6=>?_
  refine Aj rfl (fun h=>?_) (fun h=>?_)
  ·first
   | exact Bool.noConfusion h
   |skip
    try simp only [decide_eq_true_eq] at h
    refine Ak ?_
    refine hK6 _ ?_
    refine Aa fun K7 hK7=>?_
    refine Am ?_
    refine Aa fun K8 hK8=>?_
    refine Ac ?_
    simp (disch:=(first | assumption | omega | (simp only [List.length_set]; omega))) only [hfr0,Ad,Bw,Dj,amL,amT,sA,sB,sF,↓reduceIte,reduceCtorEq]
    refine hK8 _ ?_
    refine Aa fun K9 hK9=>?_
    refine Aa fun K10 hK10=>?_
    refine Cb (by kernel_rfl) (by kernel_rfl) ?_
    simp (disch:=(first | assumption | omega | (simp only [List.length_set]; omega))) only [amL,amT,sA,sF,↓reduceIte,reduceCtorEq]
    refine hK10 _ ?_
    refine Aj rfl (fun h=>?_) (fun h=>?_)
    ·first
     | exact Bool.noConfusion h
     |skip
      try simp only [decide_eq_true_eq] at h
      refine Aa fun K11 hK11=>?_
      refine Ac ?_
      simp (disch:=(first | assumption | omega | (simp only [List.length_set]; omega))) only [Ad,Br,Az,Ca,amL,amT,sA,sF,↓reduceIte,reduceCtorEq]
      refine hK11 _ ?_
      refine Ah ?_
      try simp (disch:=(first | assumption | omega | (simp only [List.length_set]; omega))) only [amL]
      all_goals ((first | (have e:=U8 (by omega) (by assumption) hr) | (have e:=Yr (by omega) hr)) ; rw [e] ; refine A3 (res:=.tup [avW v,bl _]) os ?_ (by first | ((repeat' first | exact Sub.refl _ | refine Sub.skip (by first | exact hfr0 _ | (simp (disch:=omega) only [Ad]; exact hfr0 _)) ?_ | refine Sub.both ?_); done) | fail) hcl (A5 _ (D1 _ _)) ⟨rfl,rfl⟩ ; refine (Gq (n:=bd+6) (off:=0) (g:=true) (cs:=cW v) (x:=avW v) (by simp (disch:=(first | assumption | omega | (simp only [List.length_set]; omega))) only [amL,sF,↓reduceIte,reduceCtorEq]) (by simp only [amT]; rfl) (by simp (disch:=(first | assumption | omega | (simp only [List.length_set]; omega))) only [amL]; try rfl) (by simp only [amT,List.drop_zero]; exact W9 hv4)).trans ?_ ; simp (disch:=(first | assumption | omega | (simp only [List.length_set]; omega))) only [amL,↓reduceIte] ; all_goals first | rfl | (omega))
    ·first
     | exact Bool.noConfusion h
     |skip
      try simp only [decide_eq_false_iff_not] at h
      refine Ak ?_
      refine hK9 _ ?_
      refine Cb (by kernel_rfl) (by kernel_rfl) ?_
      simp (disch:=(first | assumption | omega | (simp only [List.length_set]; omega))) only [Ad,Bdo,Bd1,List.set_set,Jo,Az,amL,amT,sA,sB,sE,sF,sH,↓reduceIte,reduceCtorEq]
      refine hK7 _ ?_
      refine Ac ?_
      simp (disch:=(first | assumption | omega | (simp only [List.length_set]; omega))) only [amL,amT,sA,sF,↓reduceIte,reduceCtorEq]
      refine hK4 (k+1,v.set k ⟨gs.getD k 0,gs.getD k 0 * ds.getD k 0⟩) _ ?_ ?_ (Gd ?_ ?_ ?_ ?_)
      all_goals (try simp (disch:=(first | assumption | omega | (simp only [List.length_set]; omega))) only [ow,Ad,amL,sF,↓reduceIte,reduceCtorEq])
      all_goals first | omega | exact ⟨by omega,by simp [hv4],Aee (by omega) (by omega) hr⟩ | exact (by first | ((repeat' first | exact Sub.refl _ | refine Sub.skip (by first | exact hfr0 _ | (simp (disch:=omega) only [Ad]; exact hfr0 _)) ?_ | refine Sub.both ?_); done) | fail) | exact Ee hcl | trace_state
  ·first
   | exact Bool.noConfusion h
   |skip
    try simp only [decide_eq_false_iff_not] at h
    refine Bn ?_
    refine hK2 _ ?_
    refine Aa fun K12 hK12=>?_
    refine Ac ?_
    simp (disch:=(first | assumption | omega | (simp only [List.length_set]; omega))) only [Bw,Br,Az,Ca,amL,amT,sA,sF,↓reduceIte,reduceCtorEq]
    refine hK12 _ ?_
    refine Ah ?_
    try simp (disch:=(first | assumption | omega | (simp only [List.length_set]; omega))) only [amL]
    all_goals ((first | (have e:=U8 (by omega) (by assumption) hr) | (have e:=Yr (by omega) hr)) ; rw [e] ; refine A3 (res:=.tup [avW v,bl _]) os ?_ (by first | ((repeat' first | exact Sub.refl _ | refine Sub.skip (by first | exact hfr0 _ | (simp (disch:=omega) only [Ad]; exact hfr0 _)) ?_ | refine Sub.both ?_); done) | fail) hcl (A5 _ (D1 _ _)) ⟨rfl,rfl⟩ ; refine (Gq (n:=bd+6) (off:=0) (g:=true) (cs:=cW v) (x:=avW v) (by simp (disch:=(first | assumption | omega | (simp only [List.length_set]; omega))) only [amL,sF,↓reduceIte,reduceCtorEq]) (by simp only [amT]; rfl) (by simp (disch:=(first | assumption | omega | (simp only [List.length_set]; omega))) only [amL]; try rfl) (by simp only [amT,List.drop_zero]; exact W9 hv4)).trans ?_ ; simp (disch:=(first | assumption | omega | (simp only [List.length_set]; omega))) only [amL,↓reduceIte] ; all_goals first | rfl | (omega))
theorem Bd5 {b:Er} {s:Stp} {n:Int} {v:List Liq} (hs:F5 b.vs.length s=true) (hb:b.vs.length≤4) (hn:0≤n∧n≤60) (hv:OkV v):(kD s n v).all inR=true:=by
  obtain ⟨h1,h2,h3,_,h5⟩:=Fz hs
  have h6:=C9 h5
  refine Bep ⟨?_,?_,?_,?_,?_⟩ ?_ hv.small <;> (simp only [inR,Bool.and_eq_true,decide_eq_true_eq]; omega)
theorem Ah4 {os:Nat→Option AO} {n1 n2 n3:Nat} {t:Tru} {v w:List Liq} (hcl:(Hp os).closed):(Hp (upd (upd (upd os n1 (some (.cells (cT t)))) n2 (some (.cells (cW v)))) n3 (some (.cells (cW w))))).closed:=
  Ee (Ee (Gc hcl fun x hx=>by simp at hx; rcases hx with rfl | rfl | rfl <;> rfl))
theorem En {b:Er} {t:Tru} {nw m:Nat} {os:Nat→Option AO} {bd:Nat} (hW:Wk b.vs b.ss nw m os) (hv:Pd b) (ht:F4 b t=true) :
    Bi Try.prog bd (.fn (.func 62) [] []) [.ptr nw 0,avT t] os fun res os'=>res=.tup [avW (Mr b t).1,bl (Mr b t).2]∧os'=os:=by
  refine B4 (v:=[116,99]) (q:=[]) (N:=48) (rs:=[.cell 4 166,.tmp 5]) Try.func62 rfl (by kernel_rfl) rfl rfl (fun hcl hfree=>?_)
  have hfr0:∀ k,os (bd+k)=none:=fun k=>hfree _ (by omega)
  have hlw:=Ap hfree hW.ow
  have hlm:=Ap hfree hW.om
  have ow:=hW.ow
  have om:=hW.om
  obtain ⟨s1,s2,s3⟩:=L1 hv ht
  obtain ⟨p1,p2,p3,p4,p5⟩:=Dn ht
  have hb0:=Yh hv ht
  have hnv:=hv.nv
  have hns:=hv.ns
  have bl4:=hb0.len
  refine Aa fun K1 hK1=>?_
  refine Ac ?_
  simp (disch:=(first | assumption | omega | (simp only [List.length_set]; omega))) only [hfr0,Ad,amL,amT,sA,sB,↓reduceIte,reduceCtorEq]
  refine hK1 _ ?_
  refine Aa fun K2 hK2=>?_
  refine Ac ?_
  simp (disch:=(first | assumption | omega | (simp only [List.length_set]; omega))) only [Ad,amL,amT,sA,sF,sG,↓reduceIte,reduceCtorEq]
  repeat' first | (refine Cd (bd:=bd+48) (by decide) (Ahf (ss:=b.ss) (m:=m) ⟨by simp (disch:=omega) only [Ad]; exact ow,by simp (disch:=omega) only [Ad]; exact om⟩ hnv p1 p2 (fun k=>by have:=s1 k; omega) (fun k=>by have:=s2 k; omega)) (fun q hq=>by simp (disch:=omega) only [Ad]; exact hfree q (by omega)) (Nat.le_add_right _ _) (D1 _ _) ?_ ; simp (disch:=(first | assumption | omega | (simp only [List.length_set]; omega))) only [hfr0,Ad,Bw,Afa,Az,amL,amT,sA,sB,sF,↓reduceIte])
  refine hK2 _ ?_
  refine Aa fun K3 hK3=>?_
  refine Aa fun K4 hK4=>?_
  refine Ac ?_
  simp (disch:=(first | assumption | omega | (simp only [List.length_set]; omega))) only [ow,Ad,amL,amT,sA,↓reduceIte,reduceCtorEq]
  refine hK4 _ ?_
  refine Am ?_
  skip
  refine Bb (α:=Nat × (List Liq × Bool)) (fun x=>⟨T [(0,.ptr nw 0),(3,.ptr (bd+3) 0),(4,.ptr (bd+4) 0),(6,.ptr (bd+6) 0),(7,bl x.2.2),(23,.p (slS b.ss)),(24,i64 b.ss.length),(25,i64 (x.1:Int))],upd (upd (upd os (bd+3) (some (.cells (cT t)))) (bd+4) (some (.cells (cW v0)))) (bd+6) (some (.cells (cW x.2.1)))⟩) (fun x=>b.ss.length - x.1) (fun x=>x.1≤b.ss.length∧x.2.1.length=4∧(x.2.2=true→OkV x.2.1)∧Ky b.vs t.m (b.ss.drop x.1) x.1 x.2=Mr b t) (0,M9 b.vs t.g t.d) ?_ ?_ (fun x hx5 K5 hK5=>?_)
  · exact ⟨by simp,bl4,fun _=>hb0,rfl⟩
  · refine Gd ?_ ?_ ?_ ?_ <;> (try simp (disch:=(first | assumption | omega | (simp only [List.length_set]; omega))) only [ow,Ad,amL,sF,↓reduceIte,reduceCtorEq]); all_goals first | rfl | exact (by first | ((repeat' first | exact Sub.refl _ | refine Sub.skip (by first | exact hfr0 _ | (simp (disch:=omega) only [Ad]; exact hfr0 _)) ?_ | refine Sub.both ?_); done) | fail) | exact Ah4 hcl | (omega)
  obtain ⟨k,v,is⟩:=x; dsimp only at hx5 ⊢; obtain ⟨hk,hr4,ho,hr⟩:=hx5
  refine Aa fun K6 hK6=>?_
  refine Ac ?_
  simp (disch:=(first | assumption | omega | (simp only [List.length_set]; omega))) only [amL,amT,sA,sF,↓reduceIte,reduceCtorEq]
  refine hK6 _ ?_
  refine Aa fun K7 hK7=>?_
  refine Aj rfl (fun h=>?_) (fun h=>?_)
  ·first
   | exact Bool.noConfusion h
   |skip
    try simp only [decide_eq_true_eq] at h
    refine Ak ?_
    refine hK7 _ ?_
    refine Aa fun K8 hK8=>?_
    refine Am ?_
    refine Aa fun K9 hK9=>?_
    refine Ac ?_
    simp (disch:=(first | assumption | omega | (simp only [List.length_set]; omega))) only [hfr0,Ad,Bw,Y7,amL,amT,sA,sB,sF,↓reduceIte,reduceCtorEq]
    refine hK9 _ ?_
    refine Aa fun K10 hK10=>?_
    refine Aa fun K11 hK11=>?_
    refine Ac ?_
    simp (disch:=(first | assumption | omega | (simp only [List.length_set]; omega))) only [amL,sA,sF,↓reduceIte,reduceCtorEq]
    refine hK11 _ ?_
    refine Aj rfl (fun h=>?_) (fun h=>?_)
    ·first
     | exact Bool.noConfusion h
     |skip
      try simp only [Bool.not_eq_true'] at h
      refine Aa fun K12 hK12=>?_
      refine Ac ?_
      simp (disch:=(first | assumption | omega | (simp only [List.length_set]; omega))) only [Ad,Br,Az,Ca,amL,amT,sA,sB,sC,sF,↓reduceIte,reduceCtorEq]
      refine hK12 _ ?_
      refine Ah ?_
      try simp (disch:=(first | assumption | omega | (simp only [List.length_set]; omega))) only [amL]
      all_goals ((first | (have e:=Uy (by omega) (by assumption) hr) | (have e:=Yk (by omega) hr)) ; rw [e] ; refine A3 (res:=.tup [avW v,bl _]) os ?_ (by first | ((repeat' first | exact Sub.refl _ | refine Sub.skip (by first | exact hfr0 _ | (simp (disch:=omega) only [Ad]; exact hfr0 _)) ?_ | refine Sub.both ?_); done) | fail) hcl (A5 _ (D1 _ _)) ⟨rfl,rfl⟩ ; refine (Gq (n:=bd+4) (off:=0) (g:=true) (cs:=cW v) (x:=avW v) (by simp (disch:=(first | assumption | omega | (simp only [List.length_set]; omega))) only [amL,sF,↓reduceIte,reduceCtorEq]) (by simp only [amT]; rfl) (by simp (disch:=(first | assumption | omega | (simp only [List.length_set]; omega))) only [amL]; try rfl) (by simp only [amT,List.drop_zero]; exact W9 hr4)).trans ?_ ; simp (disch:=(first | assumption | omega | (simp only [List.length_set]; omega))) only [amL,↓reduceIte] ; all_goals first | rfl | (omega))
    ·first
     | exact Bool.noConfusion h
     |skip
      try simp only [Bool.not_eq_false'] at h
      refine Ak ?_
      refine hK10 _ ?_
      refine U9 (by kernel_rfl) (by kernel_rfl) ?_
      have his:is=true:=by assumption
      have hov:=ho his
      have hst:=hv.stp (k:=k) (by omega)
      obtain ⟨q1,q2,q3,_⟩:=Fz hst
      have hmk:=s3 k
      have hd4:(doS b.vs v (b.ss.getD k default) (t.m.getD k 0)).1.length=4:=by rw [Aa7]; exact hr4
      simp (disch:=(first | assumption | omega | (simp only [List.length_set]; omega))) only [Ad,Ba,Br,Az,amL,amT,sA,sB,sF,sG,↓reduceIte,reduceCtorEq]
      repeat' first | (refine Cd (bd:=bd+48) (by decide) (Bg1 (ss:=b.ss) (m:=m) (s:=b.ss.getD k default) ⟨by simp (disch:=omega) only [Ad]; exact ow,by simp (disch:=omega) only [Ad]; exact om⟩ hr4 hov.small hnv q1 ⟨q2.1,by omega⟩ ⟨q3.1,by omega⟩ ⟨hmk.1,by omega⟩ (Bd5 hst hnv hmk hov)) (fun q hq=>by simp (disch:=omega) only [Ad]; exact hfree q (by omega)) (Nat.le_add_right _ _) (D1 _ _) ?_ ; simp (disch:=(first | assumption | omega | (simp only [List.length_set]; omega))) only [Ad,Az,Ca,amL,amT,sA,sF,↓reduceIte,reduceCtorEq])
      refine hK8 _ ?_
      refine Ac ?_
      simp (disch:=(first | assumption | omega | (simp only [List.length_set]; omega))) only [amL,amT,sA,sF,↓reduceIte,reduceCtorEq]
      refine hK5 (k+1,doS b.vs v (b.ss.getD k default) (t.m.getD k 0)) _ ?_ ?_ (Gd ?_ ?_ ?_ ?_)
      all_goals (try simp (disch:=(first | assumption | omega | (simp only [List.length_set]; omega))) only [ow,Ad,amL,sF,↓reduceIte,reduceCtorEq])
      all_goals first | omega | exact ⟨by omega,by rw [Aa7]; exact hr4,fun hd=>Ao5 hov hnv hv.v hst hmk.1 hd,Afz (by omega) his hr⟩ | exact (by first | ((repeat' first | exact Sub.refl _ | refine Sub.skip (by first | exact hfr0 _ | (simp (disch:=omega) only [Ad]; exact hfr0 _)) ?_ | refine Sub.both ?_); done) | fail) | exact Ah4 hcl | (omega)
  ·first
   | exact Bool.noConfusion h
   |skip
    try simp only [decide_eq_false_iff_not] at h
    refine Bn ?_
    refine hK3 _ ?_
    refine Aa fun K13 hK13=>?_
    refine Ac ?_
    simp (disch:=(first | assumption | omega | (simp only [List.length_set]; omega))) only [Ad,Br,Az,Ca,amL,amT,sA,sB,sC,sF,↓reduceIte,reduceCtorEq]
    refine hK13 _ ?_
    refine Ah ?_
    try simp (disch:=(first | assumption | omega | (simp only [List.length_set]; omega))) only [amL]
    all_goals ((first | (have e:=Uy (by omega) (by assumption) hr) | (have e:=Yk (by omega) hr)) ; rw [e] ; refine A3 (res:=.tup [avW v,bl _]) os ?_ (by first | ((repeat' first | exact Sub.refl _ | refine Sub.skip (by first | exact hfr0 _ | (simp (disch:=omega) only [Ad]; exact hfr0 _)) ?_ | refine Sub.both ?_); done) | fail) hcl (A5 _ (D1 _ _)) ⟨rfl,rfl⟩ ; refine (Gq (n:=bd+4) (off:=0) (g:=true) (cs:=cW v) (x:=avW v) (by simp (disch:=(first | assumption | omega | (simp only [List.length_set]; omega))) only [amL,sF,↓reduceIte,reduceCtorEq]) (by simp only [amT]; rfl) (by simp (disch:=(first | assumption | omega | (simp only [List.length_set]; omega))) only [amL]; try rfl) (by simp only [amT,List.drop_zero]; exact W9 hr4)).trans ?_ ; simp (disch:=(first | assumption | omega | (simp only [List.length_set]; omega))) only [amL,↓reduceIte] ; all_goals first | rfl | (omega))
theorem Ba1 (n:Nat) (hn:n≤1000000):Jh Try.prog 115 [C3,i64 (n:Int)] 1 []:=by
  refine Kk (v:=[]) (q:=[]) (N:=27) (i:=4) Try.func115 rfl rfl rfl rfl ?_
  refine Aa fun K1 hK1=>?_
  refine Ac ?_
  simp (disch:=omega) only [amL,sA,sB]
  refine hK1 _ ?_
  refine Aa fun K2 hK2=>?_
  refine Aa fun K3 hK3=>?_
  refine Ac ?_
  simp (disch:=omega) only [amL,amT,sA,sF,↓reduceIte,reduceCtorEq]
  refine hK3 _ ?_
  refine Aj rfl (fun h=>?_) (fun h=>?_)
  ·first
   | exact Bool.noConfusion h
   |skip
    try simp only [Bool.not_eq_true',decide_eq_true_eq,decide_eq_false_iff_not,Bool.and_eq_true,Bool.not_eq_false',Bool.not_not,decide_not,Bool.not_true,Bool.not_false] at h
    exfalso; omega
  ·first
   | exact Bool.noConfusion h
   |skip
    try simp only [decide_eq_false_iff_not] at h
    refine Ak ?_
    refine hK2 _ ?_
    refine Aa fun K4 hK4=>?_
    refine Aa fun K5 hK5=>?_
    refine C0 ?_
    refine Jw ?_
    simp (disch:=omega) only [amL,sA,sF,↓reduceIte,reduceCtorEq]
    refine Jw ?_
    simp (disch:=omega) only [amL,sA,↓reduceIte,reduceCtorEq]
    refine AL.step (Qn (t:=22) (e:=3) rfl (fun k hk=>by cases hk; decide) (by simp only [amT]) rfl ?_)
    refine Dd ?_
    simp (disch:=omega) only [Int.sub_zero,Int.sub_self,amL,amT,sA,sF,↓reduceIte,reduceCtorEq]
    refine hK5 _ ?_
    refine Aa fun K6 hK6=>?_
    refine Ac ?_
    simp (disch:=omega) only [amL,amT,sA,↓reduceIte]
    refine hK6 _ ?_
    refine Aj rfl (fun h=>?_) (fun h=>?_)
    ·first
     | exact Bool.noConfusion h
     |skip
      try simp only [decide_eq_true_eq] at h
      refine C0 ?_
      refine Jw ?_
      simp (disch:=omega) only [amL,sA,↓reduceIte,reduceCtorEq]
      refine Jw ?_
      simp (disch:=omega) only [amL,sA,↓reduceIte,reduceCtorEq]
      refine AL.step (Qn (t:=22) (e:=3) rfl (fun k hk=>by cases hk; decide) (by simp only [amT]) rfl ?_)
      refine AL.step (V8 (t:=22) (e:=3) rfl (fun k hk=>by cases hk; decide) (by simp only [amT]) (by simp only [amT]; rfl) rfl rfl ?_)
      refine Jw ?_
      simp (disch:=omega) only [amL,sA,sF,↓reduceIte]
      refine AL.step (Xf (t:=22) (t':=3) (e:=3) (k:=.i64) (n:=n) (dk:=22) rfl rfl (by decide) rfl (by simp only [amT]) (by simp only [amT]) (by simp only [amT]; rfl) (by simp only [amT]; rfl) (by simp only [amT]; decide) (by simp only [amT]; rfl) rfl rfl (by omega) hn (by simp only [amT]; omega) ?_)
      refine Jw ?_
      simp (disch:=omega) only [amL,amT,sA,↓reduceIte,reduceCtorEq]
      refine Jw ?_
      simp (disch:=omega) only [amL,amT,sA,↓reduceIte]
      refine AL.step (S8 (t:=22) (e:=3) (n:=22) (len:=n) (dk:=25) rfl rfl (by decide) (by simp only [amT]) (by simp only [amT]; rfl) rfl (by omega) rfl rfl rfl ?_)
      refine Dd ?_
      simp (disch:=omega) only [amL,sA,↓reduceIte]
      refine hK4 _ ?_
      refine Aa fun K7 hK7=>?_
      refine Ac ?_
      simp (disch:=omega) only [amL,sA,↓reduceIte]
      refine hK7 _ ?_
      refine Ah ?_
      try simp (disch:=omega) only [Dw,amL,↓reduceIte]
      all_goals rfl
    ·first
     | exact Bool.noConfusion h
     |skip
      try simp only [decide_eq_false_iff_not] at h
      refine Ak ?_
      refine hK4 _ ?_
      refine Aa fun K8 hK8=>?_
      refine Ac ?_
      simp (disch:=omega) only [amL,sA,↓reduceIte,reduceCtorEq]
      refine hK8 _ ?_
      refine Ah ?_
      try simp (disch:=omega) only [Dw,amL,↓reduceIte]
      all_goals rfl
abbrev Akc (t:List Int):List PV:=[.sl (t.map Hm)]
theorem Yp {l:List (List Int)} {k:Nat} (h:k < l.length):(l.map Akc).getD k []=Akc (l.getD k []):=Cq _ _ _ h
theorem Yf {l:List (List Int)} {k:Nat} (h:k < l.length):(l.take (k+1)).flatten=(l.take k).flatten++l.getD k []:=by
  have e:l.take (k+1)=l.take k++[l.getD k []]:=by
    rw [List.take_add_one,List.getElem?_eq_getElem h]; simp [List.getD,h]
  rw [e,List.flatten_append]; simp
theorem Tj {l:List (List Int)} (k:Nat):(l.take k).flatten.length≤l.flatten.length:=by
  have:l.flatten=(l.take k).flatten++(l.drop k).flatten:=by rw [← List.flatten_append,List.take_append_drop]
  rw [this,List.length_append]; omega
theorem An4 (l:List Int):((l.map Hm).all fun c=>decide (c.length=1))=true:=by
  rw [List.all_eq_true]; intro c hc; obtain ⟨z,-,rfl⟩:=List.mem_map.1 hc; rfl
theorem Ks {os:Nat→Option AO} {n len k:Nat} {es:List (List PV)} (h:os n=some (.arr k es)) (h1:len=es.length) (h2:(es.all fun e=>e.all PV.isVal)=true):Sr k os (.own n len)=some es:=by
  unfold Sr; simp only [h]; rw [if_pos ⟨trivial,h1,h2⟩]
theorem Aem (l:List Int):((l.map Hm).all fun e=>e.all PV.isVal)=true:=by
  rw [List.all_eq_true]; intro c hc; obtain ⟨z,-,rfl⟩:=List.mem_map.1 hc; rfl
theorem Ali (ls:List (List Int)) (hl:ls.length < 1000000) (hf:ls.flatten.length≤1000000):Jh Try.prog 58 [.p (.sl (ls.map Akc))] 1 (ls.flatten.map Hm):=by
  refine Kk (v:=[]) (q:=[]) (N:=36) (i:=2) Try.func58 rfl rfl rfl rfl ?_
  refine Aa fun K1 hK1=>?_
  refine Ac ?_
  simp (disch:=omega) only [amL,sA]
  refine hK1 _ ?_
  refine Aa fun K2 hK2=>?_
  refine Ac ?_
  simp (disch:=omega) only [amL,sA]
  refine hK2 _ ?_
  refine Aa fun K3 hK3=>?_
  refine Aa fun K4 hK4=>?_
  refine Ac ?_
  simp (disch:=omega) only [amL,amT,sA,↓reduceIte,reduceCtorEq]
  refine hK4 _ ?_
  refine Am ?_
  skip
  refine Bb (α:=Nat) (fun k=>⟨T [(0,.p (.sl (ls.map Akc))),(3,i64 ((ls.take k).flatten.length:Int)),(9,.p (.sl (ls.map Akc))),(10,i64 ls.length),(11,i64 (k:Int))],O []⟩) (fun k=>ls.length - k) (fun k=>k≤ls.length) 0 ?_ ?_ (fun k hx5 K5 hK5=>?_)
  · simp
  · refine C8 ?_ ?_ ?_ ?_ <;> (try simp (disch:=omega) only [amL,sF,↓reduceIte,reduceCtorEq]); all_goals rfl
  have hk:=hx5; have hk2:=Tj (l:=ls) k; have hk3:=Tj (l:=ls) (k+1)
  refine Aa fun K6 hK6=>?_
  refine Ac ?_
  simp (disch:=omega) only [amL,amT,sA,sF,↓reduceIte,reduceCtorEq]
  refine hK6 _ ?_
  refine Aa fun K7 hK7=>?_
  refine Aj rfl (fun h=>?_) (fun h=>?_)
  ·first
   | exact Bool.noConfusion h
   |skip
    try simp only [decide_eq_true_eq] at h
    refine Ak ?_
    refine hK7 _ ?_
    refine Aa fun K8 hK8=>?_
    refine Am ?_
    refine Aa fun K9 hK9=>?_
    refine Ac ?_
    simp (disch:=omega) only [Yp,amL,amT,sA,sF,↓reduceIte,reduceCtorEq]
    refine hK9 _ ?_
    refine Aa fun K10 hK10=>?_
    refine Ac ?_
    have hk4:=congrArg List.length (Yf (l:=ls) (k:=k) (by omega))
    rw [List.length_append] at hk4
    simp (disch:=omega) only [amL,amT,sA,sF,↓reduceIte,reduceCtorEq]
    refine hK10 _ ?_
    refine Aa fun K11 hK11=>?_
    refine Ac ?_
    simp (disch:=omega) only [amL,amT,sA,↓reduceIte]
    refine hK11 _ ?_
    refine Aj rfl (fun h=>?_) (fun h=>?_)
    ·first
     | exact Bool.noConfusion h
     |skip
      try simp only [Bool.not_eq_true',decide_eq_true_eq,decide_eq_false_iff_not,Bool.and_eq_true,Bool.not_eq_false',Bool.not_not,decide_not,Bool.not_true,Bool.not_false] at h
      exfalso; omega
    ·first
     | exact Bool.noConfusion h
     |skip
      try simp only [decide_eq_false_iff_not] at h
      refine Ak ?_
      refine hK8 _ ?_
      refine Ac ?_
      simp (disch:=omega) only [amL,amT,sA,sF,↓reduceIte,reduceCtorEq]
      refine hK5 (k+1) _ ?_ ?_ (C8 ?_ ?_ ?_ ?_)
      all_goals (try simp (disch:=omega) only [amL,sF,↓reduceIte,reduceCtorEq])
      all_goals first | omega | exact congrArg i64 (by omega) | trace_state
  ·first
   | exact Bool.noConfusion h
   |skip
    try simp only [decide_eq_false_iff_not] at h
    refine Bn ?_
    refine hK3 _ ?_
    refine Aa fun K12 hK12=>?_
    refine Ac ?_
    have htk:ls.take k=ls:=List.take_of_length_le (by omega)
    simp (disch:=omega) only [htk,amL,sA,sF,↓reduceIte,reduceCtorEq]
    repeat' first | (refine U6 (by kernel_rfl) (by decide) (Ba1 ls.flatten.length hf) (by simp (disch:=omega) only [amL]) ?_ ; simp (disch:=omega) only [amL,sA,↓reduceIte])
    refine hK12 _ ?_
    refine Aa fun K13 hK13=>?_
    refine Aa fun K14 hK14=>?_
    refine Ac ?_
    simp (disch:=omega) only [amL,amT,sA,↓reduceIte,reduceCtorEq]
    refine hK14 _ ?_
    refine Am ?_
    refine Ud 24 33 rfl (by decide) (by decide) ?_
    refine Bb (α:=Nat) (fun k=>⟨T [(6,.own 33 (ls.take k).flatten.length),(25,.p (.sl (ls.map Akc))),(26,i64 ls.length),(27,i64 (k:Int))],O [(33,.arr 1 ((ls.take k).flatten.map Hm))]⟩) (fun k=>ls.length - k) (fun k=>k≤ls.length) 0 ?_ ?_ (fun k hx15 K15 hK15=>?_)
    · simp
    · refine C8 ?_ ?_ ?_ ?_ <;> (try simp (disch:=omega) only [W0,Z3,AV.ren,AO.ren,rn,amL,sF,↓reduceIte]); all_goals first | rfl | trace_state
    have hk:=hx15; have hk2:=Tj (l:=ls) k; have hk3:=Tj (l:=ls) (k+1)
    refine Aa fun K16 hK16=>?_
    refine Ac ?_
    simp (disch:=omega) only [amL,amT,sA,sF,↓reduceIte]
    refine hK16 _ ?_
    refine Aa fun K17 hK17=>?_
    refine Aj rfl (fun h=>?_) (fun h=>?_)
    ·first
     | exact Bool.noConfusion h
     |skip
      try simp only [decide_eq_true_eq] at h
      refine Ak ?_
      refine hK17 _ ?_
      refine Aa fun K18 hK18=>?_
      refine Am ?_
      refine Aa fun K19 hK19=>?_
      refine Ac ?_
      simp (disch:=omega) only [Yp,amL,amT,sA,sF,↓reduceIte]
      refine hK19 _ ?_
      refine Ac ?_
      have hk5:=Yf (l:=ls) (k:=k) (by omega)
      have hk4:=congrArg List.length hk5
      rw [List.length_append] at hk4
      simp (disch:=omega) only [An4,amL,amT,sA,sF,↓reduceIte]
      refine hK18 _ ?_
      refine Ac ?_
      simp (disch:=omega) only [amL,amT,sA,sF,↓reduceIte]
      refine hK15 (k+1) _ ?_ ?_ (C8 ?_ ?_ ?_ ?_)
      all_goals (try simp (disch:=omega) only [amL,sF,↓reduceIte])
      all_goals first | omega | (rw [hk4]; done) | (rw [hk5,List.map_append]; done) | (rw [hk5,List.map_append]; rfl) | trace_state
    ·first
     | exact Bool.noConfusion h
     |skip
      try simp only [decide_eq_false_iff_not] at h
      refine Bn ?_
      refine hK13 _ ?_
      refine Aa fun K20 hK20=>?_
      refine Ac ?_
      simp (disch:=omega) only [amL,sA,sF,↓reduceIte]
      refine hK20 _ ?_
      refine Ah ?_
      try simp (disch:=omega) only [Dw,amL,↓reduceIte]
      rw [List.take_of_length_le (show ls.length≤k by omega)] ; exact Ks rfl (List.length_map _).symm (Aem _)
theorem Aca {α β:Type} {l:List α} {f:α→β} {k:Nat} (d:α) (h:k < l.length):(l.take (k+1)).map f=(l.take k).map f++[f (l.getD k d)]:=by
  rw [List.take_add_one,List.getElem?_eq_getElem h,List.map_append]
  simp [List.getD,h]
theorem Aom {α:Type} {l:List α} {p:List Rng} {f:α→Rng} {k:Nat} (d:α) (h:k < l.length):(p++(l.take k).map f).map G6++[G6 (f (l.getD k d))]=(p++(l.take (k+1)).map f).map G6:=by
  rw [Aca d h]; simp
theorem Bb5 {α β:Type} {l:List α} {p:List β} {f:α→β} {k:Nat} (h:k < l.length):(p++(l.take k).map f).length+1=(p++(l.take (k+1)).map f).length:=by simp; omega
theorem T2 {α:Type} {l:List α} {k:Nat} (h1:k≤l.length) (h2:¬ (k:Int) < l.length):l.take k=l:=List.take_of_length_le (by omega)
theorem Adt (b:Er) (hl:b.vs.length < 1000000) (hl2:b.ss.length < 1000000):Bo Try.prog 59 [avB b] (.p (.sl ((F2 b).map G6))):=by
  refine Bg (v:=[]) (q:=[]) (N:=49) (rs:=[.tmp 2]) Try.func59 rfl rfl rfl rfl rfl ?_
  obtain ⟨p1,hp1⟩:∃ p,p=([]:List Rng):=⟨_,rfl⟩
  obtain ⟨p2,hp2⟩:∃ p,p=b.vs.map (·.g):=⟨_,rfl⟩
  obtain ⟨p3,hp3⟩:∃ p,p=b.vs.map (·.g)++b.vs.map (·.d):=⟨_,rfl⟩
  refine Aa fun K1 hK1=>?_
  refine Ac ?_
  simp (disch:=omega) only [amL,sA,↓reduceIte]
  refine hK1 _ ?_
  refine Aa fun K2 hK2=>?_
  refine Aa fun K3 hK3=>?_
  refine Ac ?_
  simp (disch:=omega) only [amL,amT,sA,sF,↓reduceIte,reduceCtorEq]
  refine hK3 _ ?_
  refine Am ?_
  refine Ps 20 2 2 (by decide) rfl rfl ?_
  refine Bb (α:=Nat) (fun k=>⟨T [(1,.ptr 1 0),(2,.own 20 (p1++(b.vs.take k).map (·.g)).length),(10,.p (slV b.vs)),(11,i64 b.vs.length),(12,i64 (k:Int))],O [(1,.cells (cB b)),(20,.arr 2 ((p1++(b.vs.take k).map (·.g)).map G6))]⟩) (fun k=>b.vs.length - k) (fun k=>k≤b.vs.length) 0 ?_ ?_ (fun k hx4 K4 hK4=>?_)
  · simp
  · refine C8 ?_ ?_ ?_ ?_ <;> (try simp (disch:=omega) only [amL,sF,sG,↓reduceIte]); all_goals subst hp1; rfl
  have hk:=hx4; have hk2:(p1++(b.vs.take k).map (·.g)).length≤2000000:=(by subst hp1; simp; omega)
  refine Aa fun K5 hK5=>?_
  refine Ac ?_
  simp (disch:=omega) only [amL,amT,sA,sF,↓reduceIte]
  refine hK5 _ ?_
  refine Aa fun K6 hK6=>?_
  refine Aj rfl (fun h=>?_) (fun h=>?_)
  ·first
   | exact Bool.noConfusion h
   |skip
    try simp only [decide_eq_true_eq] at h
    refine Ak ?_
    refine hK6 _ ?_
    refine Aa fun K7 hK7=>?_
    refine Am ?_
    refine Aa fun K8 hK8=>?_
    refine Ac ?_
    simp (disch:=omega) only [Dj,amL,amT,sA,sB,sF,↓reduceIte]
    refine hK8 _ ?_
    refine Ac ?_
    simp (disch:=omega) only [amL,amT,sA,sB,sC,sE,sF,↓reduceIte,reduceCtorEq]
    refine hK7 _ ?_
    refine Ac ?_
    simp (disch:=omega) only [amL,amT,sA,sF,↓reduceIte]
    refine hK4 (k+1) _ ?_ ?_ (C8 ?_ ?_ ?_ ?_)
    all_goals (try simp (disch:=omega) only [amL,sF,sG,↓reduceIte])
    all_goals first | omega | exact congrArg (AV.own _) (Bb5 (by omega)) | exact congrArg (AO.arr 2) (Aom default (by omega)) | trace_state
  ·first
   | exact Bool.noConfusion h
   |skip
    try simp only [decide_eq_false_iff_not] at h
    refine Bn ?_
    refine hK2 _ ?_
    refine Aa fun K9 hK9=>?_
    refine Aa fun K10 hK10=>?_
    refine Ac ?_
    simp (disch:=omega) only [amL,amT,sA,sF,↓reduceIte,reduceCtorEq]
    refine hK10 _ ?_
    refine Am ?_
    refine Ud 20 33 rfl (by decide) (by decide) ?_
    refine Bb (α:=Nat) (fun k=>⟨T [(1,.ptr 1 0),(2,.own 33 (p2++(b.vs.take k).map (·.d)).length),(23,.p (slV b.vs)),(24,i64 b.vs.length),(25,i64 (k:Int))],O [(1,.cells (cB b)),(33,.arr 2 ((p2++(b.vs.take k).map (·.d)).map G6))]⟩) (fun k=>b.vs.length - k) (fun k=>k≤b.vs.length) 0 ?_ ?_ (fun k hx11 K11 hK11=>?_)
    · simp
    · refine C8 ?_ ?_ ?_ ?_ <;> (try simp (disch:=omega) only [W0,Z3,AV.ren,AO.ren,rn,amL,sF,sG,↓reduceIte]); all_goals first | rfl | (rw [T2 (by assumption) (by assumption)]; subst hp1 hp2; simp)
    have hk:=hx11; have hk2:(p2++(b.vs.take k).map (·.d)).length≤3000000:=(by subst hp2; simp; omega)
    refine Aa fun K12 hK12=>?_
    refine Ac ?_
    simp (disch:=omega) only [amL,amT,sA,sF,↓reduceIte]
    refine hK12 _ ?_
    refine Aa fun K13 hK13=>?_
    refine Aj rfl (fun h=>?_) (fun h=>?_)
    ·first
     | exact Bool.noConfusion h
     |skip
      try simp only [decide_eq_true_eq] at h
      refine Ak ?_
      refine hK13 _ ?_
      refine Aa fun K14 hK14=>?_
      refine Am ?_
      refine Aa fun K15 hK15=>?_
      refine Ac ?_
      simp (disch:=omega) only [Dj,amL,amT,sA,sB,sF,↓reduceIte]
      refine hK15 _ ?_
      refine Ac ?_
      simp (disch:=omega) only [amL,amT,sA,sB,sC,sE,sF,↓reduceIte,reduceCtorEq]
      refine hK14 _ ?_
      refine Ac ?_
      simp (disch:=omega) only [amL,amT,sA,sF,↓reduceIte]
      refine hK11 (k+1) _ ?_ ?_ (C8 ?_ ?_ ?_ ?_)
      all_goals (try simp (disch:=omega) only [amL,sF,sG,↓reduceIte])
      all_goals first | omega | exact congrArg (AV.own _) (Bb5 (by omega)) | exact congrArg (AO.arr 2) (Aom default (by omega)) | trace_state
    ·first
     | exact Bool.noConfusion h
     |skip
      try simp only [decide_eq_false_iff_not] at h
      refine Bn ?_
      refine hK9 _ ?_
      refine Aa fun K16 hK16=>?_
      refine Aa fun K17 hK17=>?_
      refine Ac ?_
      simp (disch:=omega) only [amL,amT,sA,sF,↓reduceIte,reduceCtorEq]
      refine hK17 _ ?_
      refine Am ?_
      refine Ud 33 46 rfl (by decide) (by decide) ?_
      refine Bb (α:=Nat) (fun k=>⟨T [(1,.ptr 1 0),(2,.own 46 (p3++(b.ss.take k).map (·.g)).length),(36,.p (slS b.ss)),(37,i64 b.ss.length),(38,i64 (k:Int))],O [(1,.cells (cB b)),(46,.arr 2 ((p3++(b.ss.take k).map (·.g)).map G6))]⟩) (fun k=>b.ss.length - k) (fun k=>k≤b.ss.length) 0 ?_ ?_ (fun k hx18 K18 hK18=>?_)
      · simp
      · refine C8 ?_ ?_ ?_ ?_ <;> (try simp (disch:=omega) only [W0,Z3,AV.ren,AO.ren,rn,amL,sF,sG,↓reduceIte]); all_goals first | rfl | (rw [T2 (by assumption) (by assumption)]; subst hp2 hp3; simp)
      have hk:=hx18; have hk2:(p3++(b.ss.take k).map (·.g)).length≤4000000:=(by subst hp3; simp; omega)
      refine Aa fun K19 hK19=>?_
      refine Ac ?_
      simp (disch:=omega) only [amL,amT,sA,sF,↓reduceIte]
      refine hK19 _ ?_
      refine Aa fun K20 hK20=>?_
      refine Aj rfl (fun h=>?_) (fun h=>?_)
      ·first
       | exact Bool.noConfusion h
       |skip
        try simp only [decide_eq_true_eq] at h
        refine Ak ?_
        refine hK20 _ ?_
        refine Aa fun K21 hK21=>?_
        refine Am ?_
        refine Aa fun K22 hK22=>?_
        refine Ac ?_
        simp (disch:=omega) only [Y7,amL,amT,sA,sB,sF,↓reduceIte]
        refine hK22 _ ?_
        refine Ac ?_
        simp (disch:=omega) only [amL,amT,sA,sB,sC,sE,sF,↓reduceIte,reduceCtorEq]
        refine hK21 _ ?_
        refine Ac ?_
        simp (disch:=omega) only [amL,amT,sA,sF,↓reduceIte]
        refine hK18 (k+1) _ ?_ ?_ (C8 ?_ ?_ ?_ ?_)
        all_goals (try simp (disch:=omega) only [amL,sF,sG,↓reduceIte])
        all_goals first | omega | exact congrArg (AV.own _) (Bb5 (by omega)) | exact congrArg (AO.arr 2) (Aom default (by omega)) | trace_state
      ·first
       | exact Bool.noConfusion h
       |skip
        try simp only [decide_eq_false_iff_not] at h
        refine Bn ?_
        refine hK16 _ ?_
        refine Aa fun K23 hK23=>?_
        refine Ac ?_
        simp (disch:=omega) only [amL,sA,sF,↓reduceIte]
        refine hK23 _ ?_
        refine Ah ?_
        try simp (disch:=omega) only [amL,sF,↓reduceIte]
        rw [List.take_of_length_le (by simp),T2 hk h,hp3]; rfl
theorem elV:ElT Try.prog 46 56 avV Am4:=Aam (P:=Try.prog) (tS:=46) (tE:=56) (enc:=Am4) (n:=5) (by simp only [amT]) (by simp only [amT]; rfl) (by simp only [amT]) (fun _=>rfl)
theorem elS:ElT Try.prog 47 58 avS Rr:=Aam (P:=Try.prog) (tS:=47) (tE:=58) (enc:=Rr) (n:=5) (by simp only [amT]) (by simp only [amT]; rfl) (by simp only [amT]) (fun _=>rfl)
theorem elR:ElT Try.prog 93 53 avR G6:=Aam (P:=Try.prog) (tS:=93) (tE:=53) (enc:=G6) (n:=2) (by simp only [amT]) (by simp only [amT]; rfl) (by simp only [amT]) (fun _=>rfl)
theorem elN:ElT Try.prog 22 3 i64 Hm:=Aro (P:=Try.prog) (tS:=22) (tE:=3) (f:=fun n=>iv n) (by simp only [amT]) (by simp only [amT]; rfl) (by simp only [amT])
theorem sfV:Nc Try.prog 46 56 221 3 4 181 147:=⟨⟨_,Try.func181,rfl,rfl,rfl,by kernel_rfl⟩,⟨_,Try.func147,rfl,rfl,rfl,by kernel_rfl⟩⟩
theorem afV:Ak9 Try.prog 46 56 221 4 147 148 101:=⟨⟨_,Try.func148,rfl,rfl,rfl,by kernel_rfl⟩,⟨_,Try.func101,rfl,rfl,rfl,by kernel_rfl⟩⟩
theorem sfS:Nc Try.prog 47 58 216 3 4 182 149:=⟨⟨_,Try.func182,rfl,rfl,rfl,by kernel_rfl⟩,⟨_,Try.func149,rfl,rfl,rfl,by kernel_rfl⟩⟩
theorem afS:Ak9 Try.prog 47 58 216 4 149 150 103:=⟨⟨_,Try.func150,rfl,rfl,rfl,by kernel_rfl⟩,⟨_,Try.func103,rfl,rfl,rfl,by kernel_rfl⟩⟩
theorem Bbm (l:List Ves) (hl:l.length < 1000000) {os:Nat→Option AO} {bd:Nat}:Bi Try.prog bd (.fn (.func 101) [] []) [.p (slV l),.fn (.func 102) [] []] os fun res os'=>res=bl (l.all Ew)∧os'=os:=
  Am2 elV sfV afV (by simp only [amT]; rfl) (by kernel_rfl) rfl (fun x _=>Alt x) hl
theorem Bae (b:Er) (l:List Stp) (hb:b.vs.length < 1000000) (hl:l.length < 1000000) {os:Nat→Option AO} {bd:Nat}:Bi Try.prog bd (.fn (.func 103) [] []) [.p (slS l),.fn (.func 97) [avB b] []] os fun res os'=>res=bl (l.all (F5 b.vs.length))∧os'=os:=
  Am2 elS sfS afS (by simp only [amT]; rfl) (by kernel_rfl) rfl (fun x _=>Baz b x hb) hl
theorem Akp {p s:Int} (h1:1≤p) (h2:p≤4782969) (h3:1≤s) (h4:s≤3):-9223372036854775808≤p * s∧p * s < 9223372036854775808:=by
  have e1:=Int.mul_le_mul h2 h4 (by omega) (by omega)
  have e2:=Int.mul_nonneg (show 0≤p by omega) (show 0≤s by omega)
  omega
theorem Ahw (b:Er) (hl:b.vs.length < 1000000) (hl2:b.ss.length < 1000000):Bo Try.prog 42 [avB b] (i64 (B6 b)):=by
  refine Bg (v:=[101,103]) (q:=[]) (N:=52) (rs:=[.tmp 2]) Try.func42 rfl rfl rfl rfl rfl ?_
  refine Aa fun K1 hK1=>?_
  refine Ac ?_
  simp (disch:=omega) only [amL,sA,↓reduceIte]
  refine hK1 _ ?_
  refine Aa fun K2 hK2=>?_
  refine Ac ?_
  simp (disch:=omega) only [amL,amT,sA,sB,sF,↓reduceIte]
  refine hK2 _ ?_
  refine Aa fun K3 hK3=>?_
  refine Am ?_
  refine Aa fun K4 hK4=>?_
  refine Ac ?_
  simp (disch:=omega) only [amL,amT,sA,sF,↓reduceIte,reduceCtorEq]
  repeat' first | (refine Dp (fun h=>?_) (fun h=>?_) <;> simp (disch:=omega) only [h,amL,amT,sA,sF,↓reduceIte,reduceCtorEq]) | (refine B0 (fun h=>?_) (fun h=>?_) <;> simp (disch:=omega) only [h,Bj,amL,amT,sA,sB,sC,sD,sE,sF,sG,sH,sI,sJ,sK,sL,sM,sN,sO,↓reduceIte,reduceCtorEq])
  all_goals
   skip
   refine hK4 _ ?_
   refine Aj rfl (fun h=>?_) (fun h=>?_)
   ·first
    | exact Bool.noConfusion h
    |skip
     try simp only [decide_eq_true_eq] at h
     refine Aa fun K5 hK5=>?_
     refine Ac ?_
     simp (disch:=omega) only [amL,sA]
     refine hK5 _ ?_
     refine Ah ?_
     try simp (disch:=omega) only [amL,↓reduceIte]
     all_goals first | (unfold B6; rw [if_pos (by omega)]; done) | (unfold B6; rw [if_neg (by omega),if_pos (by omega)]; done) | (unfold B6; rw [if_neg (by omega),if_neg (by omega),if_pos (by first | (simp_all; done) | fail)]; done) | (unfold B6; rw [if_neg (by omega),if_neg (by omega),if_neg (by first | (simp_all; done) | fail),if_pos (by first | assumption | fail)]; done) | (unfold B6; rw [if_neg (by omega),if_neg (by omega),if_neg (by rw [hv]; decide),if_neg (by rw [hs]; decide)]; rw [T2 (by assumption) (by assumption)] at h; first | (rw [if_pos (show 2000 < N7 b from h)]; done) | (rw [if_neg (show ¬ 2000 < N7 b from h)]; done)) | trace_state
   ·first
    | exact Bool.noConfusion h
    |skip
     try simp only [decide_eq_false_iff_not] at h
     refine Aa fun K6 hK6=>?_
     refine Ac ?_
     simp (disch:=omega) only [amL,amT,sA,sF,↓reduceIte,reduceCtorEq]
     repeat' first | (refine Dp (fun h=>?_) (fun h=>?_) <;> simp (disch:=omega) only [h,amL,amT,sA,sF,sG,↓reduceIte,reduceCtorEq]) | (refine B0 (fun h=>?_) (fun h=>?_) <;> simp (disch:=omega) only [h,amL,amT,sA,sF,sG,↓reduceIte,reduceCtorEq]) | (refine Cd (bd:=52) (by decide) (Bbm b.vs hl) (Lg rfl) (by decide) rfl ?_ ; simp (disch:=omega) only [amL,sA,sF,↓reduceIte]) | (refine Cd (bd:=52) (by decide) (Bae b b.ss hl hl2) (Lg rfl) (by decide) rfl ?_ ; simp (disch:=omega) only [amL,sA,sF,↓reduceIte])
     all_goals
      skip
      refine hK6 _ ?_
      refine Aj rfl (fun h=>?_) (fun h=>?_)
      ·first
       | exact Bool.noConfusion h
       |skip
        try simp only [Bool.not_eq_true'] at h
        refine Aa fun K7 hK7=>?_
        refine Ac ?_
        simp (disch:=omega) only [amL,sA]
        refine hK7 _ ?_
        refine Ah ?_
        try simp (disch:=omega) only [amL,↓reduceIte]
        all_goals first | (unfold B6; rw [if_pos (by omega)]; done) | (unfold B6; rw [if_neg (by omega),if_pos (by omega)]; done) | (unfold B6; rw [if_neg (by omega),if_neg (by omega),if_pos (by first | (simp_all; done) | fail)]; done) | (unfold B6; rw [if_neg (by omega),if_neg (by omega),if_neg (by first | (simp_all; done) | fail),if_pos (by first | assumption | fail)]; done) | (unfold B6; rw [if_neg (by omega),if_neg (by omega),if_neg (by rw [hv]; decide),if_neg (by rw [hs]; decide)]; rw [T2 (by assumption) (by assumption)] at h; first | (rw [if_pos (show 2000 < N7 b from h)]; done) | (rw [if_neg (show ¬ 2000 < N7 b from h)]; done)) | trace_state
      ·first
       | exact Bool.noConfusion h
       |skip
        try simp only [Bool.not_eq_false'] at h
        refine Ak ?_
        refine hK3 _ ?_
        refine Aa fun K8 hK8=>?_
        refine Ac ?_
        have hv:b.vs.all Ew=true:=by simp_all
        have hs:b.ss.all (F5 b.vs.length)=true:=by simp_all
        have hpb:=U3 (Yz hv hs)
        have hln:=Q5 (b:=b)
        simp (disch:=omega) only [amL,sA]
        refine hK8 _ ?_
        refine Aa fun K9 hK9=>?_
        refine Aa fun K10 hK10=>?_
        refine Ac ?_
        simp (disch:=omega) only [amL,amT,sA,sB,sF,sG,↓reduceIte]
        repeat' first | (refine Aq (by kernel_rfl) rfl (Adt b hl hl2) (by first | exact .inl rfl | exact .inr (.inl rfl)) ?_ ; simp (disch:=omega) only [amL,amT,sA,↓reduceIte])
        refine hK10 _ ?_
        refine Am ?_
        skip
        refine Bb (α:=Nat) (fun k=>⟨T [(4,i64 (Mc ((F2 b).take k) 1)),(39,.p (.sl ((F2 b).map G6))),(40,i64 (F2 b).length),(41,i64 (k:Int))],O []⟩) (fun k=>(F2 b).length - k) (fun k=>k≤(F2 b).length) 0 ?_ ?_ (fun k hx11 K11 hK11=>?_)
        · simp
        · refine C8 ?_ ?_ ?_ ?_ <;> (try simp (disch:=omega) only [amL,sF,↓reduceIte]); all_goals rfl
        have hk:=hx11
        refine Aa fun K12 hK12=>?_
        refine Ac ?_
        simp (disch:=omega) only [amL,amT,sA,sF,↓reduceIte]
        refine hK12 _ ?_
        refine Aa fun K13 hK13=>?_
        refine Aj rfl (fun h=>?_) (fun h=>?_)
        ·first
         | exact Bool.noConfusion h
         |skip
          try simp only [decide_eq_true_eq] at h
          refine Ak ?_
          refine hK13 _ ?_
          refine Aa fun K14 hK14=>?_
          refine Am ?_
          refine Aa fun K15 hK15=>?_
          refine Ac ?_
          simp (disch:=omega) only [Bj,amL,amT,sA,sB,sF,↓reduceIte]
          refine hK15 _ ?_
          refine Ac ?_
          have hsz:=Yz hv hs _ (AM.Wort.D0 default (show k < (F2 b).length by omega))
          have hp:=hpb k (by omega)
          have hp3:=Asx (k:=k) (by omega)
          have hm:=Akp hp.1 (by omega) hsz.1 hsz.2
          have hw:IntKind.i64.wrap (Mc ((F2 b).take k) 1 * Fc ((F2 b).getD k default))=_:=Em hm.1 hm.2
          have hw2:IntKind.i64.wrap ((k:Int)+1)=_:=Em (by omega) (by omega)
          unfold Fc at hsz
          simp (disch:=omega) only [amL,amT,sA,sB,sF,sG,↓reduceIte]
          repeat' first | (refine Aq (by kernel_rfl) rfl (Af7 ((F2 b).getD k default) (by omega) (by omega)) (by first | exact .inl rfl | exact .inr (.inl rfl)) ?_ ; simp (disch:=omega) only [amL,amT,sA,sF,↓reduceIte])
          refine hK14 _ ?_
          refine Ac ?_
          simp (disch:=omega) only [amL,amT,sA,sF,↓reduceIte]
          refine hK11 (k+1) _ ?_ ?_ (C8 ?_ ?_ ?_ ?_)
          all_goals (try simp (disch:=omega) only [amL,sF,↓reduceIte])
          all_goals first | omega | (rw [Ua (l:=F2 b) (k:=k) (by omega)]) | trace_state
        ·first
         | exact Bool.noConfusion h
         |skip
          try simp only [decide_eq_false_iff_not] at h
          refine Bn ?_
          refine hK9 _ ?_
          refine Aa fun K16 hK16=>?_
          refine Aa fun K17 hK17=>?_
          refine Ac ?_
          simp (disch:=omega) only [amL,amT,sA,sF,↓reduceIte]
          refine hK17 _ ?_
          refine Aj rfl (fun h=>?_) (fun h=>?_)
          ·first
           | exact Bool.noConfusion h
           |skip
            try simp only [decide_eq_true_eq] at h
            refine Aa fun K18 hK18=>?_
            refine Ac ?_
            simp (disch:=omega) only [amL,sA]
            refine hK18 _ ?_
            refine Ah ?_
            try simp (disch:=omega) only [amL,↓reduceIte]
            all_goals first | (unfold B6; rw [if_pos (by omega)]; done) | (unfold B6; rw [if_neg (by omega),if_pos (by omega)]; done) | (unfold B6; rw [if_neg (by omega),if_neg (by omega),if_pos (by first | (simp_all; done) | fail)]; done) | (unfold B6; rw [if_neg (by omega),if_neg (by omega),if_neg (by first | (simp_all; done) | fail),if_pos (by first | assumption | fail)]; done) | (unfold B6; rw [if_neg (by omega),if_neg (by omega),if_neg (by rw [hv]; decide),if_neg (by rw [hs]; decide)]; rw [T2 (by assumption) (by assumption)] at h; first | (rw [if_pos (show 2000 < N7 b from h)]; done) | (rw [if_neg (show ¬ 2000 < N7 b from h)]; done)) | trace_state
          ·first
           | exact Bool.noConfusion h
           |skip
            try simp only [decide_eq_false_iff_not] at h
            refine Ak ?_
            refine hK16 _ ?_
            refine Aa fun K19 hK19=>?_
            refine Ac ?_
            simp (disch:=omega) only [amL,sA]
            refine hK19 _ ?_
            refine Ah ?_
            try simp (disch:=omega) only [amL,↓reduceIte]
            all_goals first | (unfold B6; rw [if_pos (by omega)]; done) | (unfold B6; rw [if_neg (by omega),if_pos (by omega)]; done) | (unfold B6; rw [if_neg (by omega),if_neg (by omega),if_pos (by first | (simp_all; done) | fail)]; done) | (unfold B6; rw [if_neg (by omega),if_neg (by omega),if_neg (by first | (simp_all; done) | fail),if_pos (by first | assumption | fail)]; done) | (unfold B6; rw [if_neg (by omega),if_neg (by omega),if_neg (by rw [hv]; decide),if_neg (by rw [hs]; decide)]; rw [T2 (by assumption) (by assumption)] at h; first | (rw [if_pos (show 2000 < N7 b from h)]; done) | (rw [if_neg (show ¬ 2000 < N7 b from h)]; done)) | trace_state
theorem Ax {l:List (Nat × AO)} {b:Nat} (h:l.all fun x=>decide (x.1 < b)):∀ n,b≤n→O l n=none:=by
  intro n hn
  induction l with
  | nil=>rfl
  | cons x l ih=>
    simp only [List.all_cons,Bool.and_eq_true,decide_eq_true_eq] at h
    rw [Ag,if_neg (by omega)]
    exact ih h.2
theorem Bv {r:RB} {N:Nat} {s:St} {K:St→Prop} {dst:Option Nat} {ty:TypeId} {pos:String} {after:Array Edge} {g:Option (Nat × Bool)} {x:Operand} {lo hi:Option Operand}:EO Try.prog r N ⟨dst,.slice 166 x lo hi none,ty,pos,after,g⟩ s K=EOp r.b N dst s K (Aqo (fun e=>(Ab Try.prog e).sz) (fun e=>(Ab Try.prog e).agg) 4 164 (ev s.t x) (A9 (ev s.t) 0 lo) (A9 (ev s.t) 4 hi)):=Yg (by rw [Ahu])
theorem ld2 {a b:AV} {l:List AV}:(if 2≤(a :: b :: l).length then some (AV.agg (List.take 2 (a :: b :: l))) else none)=some (.agg [a,b]):=by simp
theorem B9 {n:Nat} (v:List Liq):(cW v).map (AV.purge n)=cW v:=by
  unfold cW
  rw [List.map_map]; rfl
theorem Afu {ks:List Nat} (v:List Liq):nmL ks (cW v)=true:=by
  unfold cW
  generalize wI v=l
  induction l with
  | nil=>rfl
  | cons x l ih=>simp only [List.map_cons,nmL,nm,ih,Bool.and_self]
def Dk (b:Er) (t:Tru):AV:=
  if B6 b=0 then
    if F4 b t=true then
      if (Mr b t).2=true then .tup [.p (.sl (((Mr b t).1.take b.vs.length).map fun l=>Be0 (Beb l))),i64 0] else .tup [C3,i64 11]
    else .tup [C3,i64 2]
  else .tup [C3,i64 (B6 b)]
theorem Akn (b:Er) (t:Tru):(Dk b t).isP=true:=by
  unfold Dk; split <;> (try split) <;> (try split) <;> rfl
theorem Asp (b:Er) (t:Tru) (hl:b.vs.length < 1000000) (hl2:b.ss.length < 1000000) (hn:(Jx t).length≤1000000):Bo Try.prog 16 [avB b,avT t] (Dk b t):=by
  refine Bg (v:=[61,62]) (q:=[]) (N:=99) (rs:=[.tmp 4,.tmp 5]) Try.func16 rfl rfl rfl rfl (Akn b t) ?_
  have hnl:=Amb t
  have hrl:=Q5 (b:=b)
  have hcc:=Ali [t.g,t.d,t.m] (by simp) hn
  rw [show [t.g,t.d,t.m].flatten=Jx t from rfl] at hcc
  refine Aa fun K1 hK1=>?_
  refine Ac ?_
  simp (disch:=omega) only [Af,Ag,amL,sA,sB,sF,↓reduceIte,reduceCtorEq]
  refine hK1 _ ?_
  refine Aa fun K2 hK2=>?_
  refine Aa fun K3 hK3=>?_
  refine Ac ?_
  simp (disch:=omega) only [Af,Ag,amL,amT,sA,sB,sF,sG,↓reduceIte]
  repeat' first | (refine Aq (by kernel_rfl) rfl (Ahw b hl hl2) (by first | exact .inl rfl | exact .inr (.inl rfl)) ?_ ; simp (disch:=omega) only [Af,amL,sA,↓reduceIte])
  refine hK3 _ ?_
  refine Aa fun K4 hK4=>?_
  refine Ac ?_
  simp (disch:=omega) only [ne_eq,Af,amL,amT,sA,↓reduceIte]
  refine hK4 _ ?_
  refine Aj rfl (fun h=>?_) (fun h=>?_)
  ·first
   | exact Bool.noConfusion h
   |skip
    try simp only [Bool.not_eq_true',decide_eq_false_iff_not,decide_not] at h
    refine Aa fun K5 hK5=>?_
    refine Ac ?_
    simp (disch:=omega) only [Af,amL,sA,sF,↓reduceIte]
    refine hK5 _ ?_
    refine Ah ?_
    try simp (disch:=omega) only [Af,amL,sF,↓reduceIte]
    all_goals first | (rw [Dk,if_neg (by assumption)]; done) | (have e9:k=b.vs.length:=(by omega) ; rw [Dk,if_pos hf0,if_pos hli,if_pos hbt,List.take_of_length_le (by simp ; omega),e9,hw] ; done) | (rw [Dk,if_pos hf0,if_pos hli,if_neg (by simpa using h)]; done) | (rw [Dk,if_pos (by omega),if_neg (fun e=>by have:=Dn e; omega)]; done) | (rw [Dk,if_pos (by omega),if_neg (fun e=>by have:=Kh e (k:=k) (by omega); simp_all)]; done) | trace_state
  ·first
   | exact Bool.noConfusion h
   |skip
    try simp only [decide_eq_true_eq,Bool.not_eq_false',decide_not] at h
    refine Ak ?_
    refine hK2 _ ?_
    refine Aa fun K6 hK6=>?_
    refine Ac ?_
    simp (disch:=omega) only [and_self,Af,Ag,amL,amT,sA,sB,sE,sF,sG,↓reduceIte,reduceCtorEq]
    repeat' first | (refine U6 (by kernel_rfl) (by decide) (hcc) (by simp (disch:=omega) only [Ag,amL,sF,↓reduceIte]) ?_ ; simp (disch:=omega) only [Af,amL,sA,↓reduceIte])
    refine hK6 _ ?_
    refine Aa fun K7 hK7=>?_
    refine Aa fun K8 hK8=>?_
    refine Ac ?_
    simp (disch:=omega) only [ne_eq,Af,Ag,amL,amT,sA,sF,↓reduceIte,reduceCtorEq]
    repeat' first | (refine Dp (fun h=>?_) (fun h=>?_) <;> simp (disch:=omega) only [h,ne_eq,Af,Ag,amL,amT,sA,sF,↓reduceIte,reduceCtorEq]) | (refine B0 (fun h=>?_) (fun h=>?_) <;> simp (disch:=omega) only [h,Bj,Ba,ne_eq,Ad,A2,Aw,Bc,A4,and_self,Af,Ag,Az,Bv,B1,Bm,Bl,B2,Kr,Jr,Ls,Int.sub_zero,Int.toNat_natCast,B7,ld2,B9,amL,amT,sA,sB,sC,sD,sE,sF,sG,sH,sI,sJ,sK,sL,sM,sN,sO,↓reduceIte,reduceCtorEq])
    all_goals
     skip
     refine hK8 _ ?_
     refine Aj rfl (fun h=>?_) (fun h=>?_)
     ·first
      | exact Bool.noConfusion h
      |skip
       try simp only [Bool.not_eq_true',decide_eq_false_iff_not,decide_not] at h
       refine Aa fun K9 hK9=>?_
       refine Ac ?_
       simp (disch:=omega) only [amL,sA]
       refine hK9 _ ?_
       refine Ah ?_
       try simp (disch:=omega) only [Af,amL,sF,↓reduceIte]
       all_goals first | (rw [Dk,if_neg (by assumption)]; done) | (have e9:k=b.vs.length:=(by omega) ; rw [Dk,if_pos hf0,if_pos hli,if_pos hbt,List.take_of_length_le (by simp ; omega),e9,hw] ; done) | (rw [Dk,if_pos hf0,if_pos hli,if_neg (by simpa using h)]; done) | (rw [Dk,if_pos (by omega),if_neg (fun e=>by have:=Dn e; omega)]; done) | (rw [Dk,if_pos (by omega),if_neg (fun e=>by have:=Kh e (k:=k) (by omega); simp_all)]; done) | trace_state
     ·first
      | exact Bool.noConfusion h
      |skip
       try simp only [decide_eq_true_eq,Bool.not_eq_false',decide_not] at h
       refine Ak ?_
       refine hK7 _ ?_
       refine Aa fun K10 hK10=>?_
       refine Aa fun K11 hK11=>?_
       refine Ac ?_
       simp (disch:=omega) only [Af,Ag,amL,amT,sA,sB,sF,sG,↓reduceIte]
       repeat' first | (refine Aq (by kernel_rfl) rfl (Adt b hl hl2) (by first | exact .inl rfl | exact .inr (.inl rfl)) ?_ ; simp (disch:=omega) only [Af,amL,amT,sA,↓reduceIte])
       refine hK11 _ ?_
       refine Am ?_
       skip
       refine Bb (α:=Nat) (fun k=>⟨T [(2,.ptr 2 0),(3,.ptr 3 0),(4,C3),(5,i64 0),(6,i64 (B6 b)),(7,.own 27 (Jx t).length),(54,.p (.sl ((F2 b).map G6))),(55,i64 (F2 b).length),(56,i64 (k:Int))],O [(2,.cells (cB b)),(3,.cells (cT t)),(27,.arr 1 ((Jx t).map Hm))]⟩) (fun k=>(F2 b).length - k) (fun k=>k≤(F2 b).length∧∀ j,j < k→Gb ((F2 b).getD j default) ((Jx t).getD j 0)=true) 0 ?_ ?_ (fun k hx12 K12 hK12=>?_)
       · exact ⟨by simp,fun j hj=>absurd hj (Nat.not_lt_zero _)⟩
       · refine C8 ?_ ?_ ?_ ?_ <;> (try simp (disch:=omega) only [A2,Aw,Bc,A4,and_self,Af,Ag,amL,sF,sG,↓reduceIte]); all_goals first | rfl | trace_state
       obtain ⟨hk,hpre⟩:=hx12
       refine Aa fun K13 hK13=>?_
       refine Ac ?_
       simp (disch:=omega) only [Af,amL,amT,sA,sF,↓reduceIte]
       refine hK13 _ ?_
       refine Aa fun K14 hK14=>?_
       refine Aj rfl (fun h=>?_) (fun h=>?_)
       ·first
        | exact Bool.noConfusion h
        |skip
         try simp only [decide_eq_true_eq] at h
         refine Ak ?_
         refine hK14 _ ?_
         refine Aa fun K15 hK15=>?_
         refine Am ?_
         refine Aa fun K16 hK16=>?_
         refine Ac ?_
         simp (disch:=omega) only [Bj,and_self,Af,Ag,Int.toNat_natCast,amL,amT,sA,sB,sF,↓reduceIte]
         refine hK16 _ ?_
         refine Aa fun K17 hK17=>?_
         refine Cb (by kernel_rfl) (by kernel_rfl) ?_
         simp (disch:=omega) only [Ba,and_self,Af,Ag,Int.toNat_natCast,amL,amT,sA,sB,sF,sG,↓reduceIte]
         repeat' first | (refine Aq (by kernel_rfl) rfl (Ac5 ((F2 b).getD k default) ((Jx t).getD k 0)) (by first | exact .inl rfl | exact .inr (.inl rfl)) ?_ ; simp (disch:=omega) only [Af,amL,sA,↓reduceIte])
         refine hK17 _ ?_
         refine Aj rfl (fun h=>?_) (fun h=>?_)
         ·first
          | exact Bool.noConfusion h
          |skip
           try simp only [Bool.not_eq_true'] at h
           refine Aa fun K18 hK18=>?_
           refine Ac ?_
           simp (disch:=omega) only [amL,sA]
           refine hK18 _ ?_
           refine Ah ?_
           try simp (disch:=omega) only [Af,amL,sF,↓reduceIte]
           all_goals first | (rw [Dk,if_neg (by assumption)]; done) | (have e9:k=b.vs.length:=(by omega) ; rw [Dk,if_pos hf0,if_pos hli,if_pos hbt,List.take_of_length_le (by simp ; omega),e9,hw] ; done) | (rw [Dk,if_pos hf0,if_pos hli,if_neg (by simpa using h)]; done) | (rw [Dk,if_pos (by omega),if_neg (fun e=>by have:=Dn e; omega)]; done) | (rw [Dk,if_pos (by omega),if_neg (fun e=>by have:=Kh e (k:=k) (by omega); simp_all)]; done) | trace_state
         ·first
          | exact Bool.noConfusion h
          |skip
           try simp only [Bool.not_eq_false'] at h
           refine Ak ?_
           refine hK15 _ ?_
           refine Ac ?_
           simp (disch:=omega) only [Af,amL,amT,sA,sF,↓reduceIte]
           refine hK12 (k+1) _ ?_ ?_ (C8 ?_ ?_ ?_ ?_)
           all_goals (try simp (disch:=omega) only [A2,Aw,Bc,A4,and_self,Af,Ag,amL,sF,sG,↓reduceIte])
           all_goals first | omega | exact ⟨by omega,fun j hj=>by
             by_cases e:j=k
             · subst e; assumption
             · exact hpre j (by omega)⟩ | trace_state
       ·first
        | exact Bool.noConfusion h
        |skip
         try simp only [decide_eq_false_iff_not] at h
         refine Bn ?_
         refine hK10 _ ?_
         refine Aa fun K19 hK19=>?_
         have hli:F4 b t=true:=Ai6 (by omega) (by omega) (by omega) (fun j hj=>hpre j (by omega))
         have hf0:B6 b=0:=by omega
         have hval:=Acd hf0
         obtain ⟨hw4,hwo⟩:=Apz hval hli
         obtain ⟨w,hw⟩:∃ w,w=(Mr b t).1:=⟨_,rfl⟩
         rw [← hw] at hw4 hwo
         have hpc:A0 [i64 0,i64 0,i64 0,i64 0,i64 0,i64 0,i64 0,i64 0] 0 (cW w)=cW w:=Ca (v:=v0) hw4
         refine Alc [(2,.ptr 2 0),(4,C3),(5,i64 0),(10,.ptr 10 0),(11,bl (Mr b t).2)] [(2,.cells (cB b)),(10,.cells (cW w))] hK19 rfl (by simp only [Uc,nmO,Afu,nmL,nm,Bool.and_self]) ?_ (fun K19 hK19=>?_)
         · refine Ap5 (n:=5) (l:=[0,1,0,7,15,31,31,0,191,511]) (by kernel_rfl) (by kernel_rfl) (by kernel_rfl) ?_
           refine Fk (ls:=[0,2,7]) rfl ⟨?_,?_,?_,trivial⟩
           · refine D4 (rem':=[1,2,3,4,5,6,7,8,9]) rfl rfl ?_
             simp (disch:=omega) only [Af,Ag,amL,amT,sA,sB,sF,↓reduceIte]
             refine Fk (ls:=[1,2,7]) rfl ⟨?_,?_,?_,trivial⟩
             · refine D4 (rem':=[2,3,4,5,6,7,8,9]) rfl rfl ?_
               simp (disch:=omega) only [Af,amL,sG,↓reduceIte]
               refine A1 [(2,.ptr 2 0),(3,.ptr 3 0),(4,C3),(5,i64 0)] (by decide) (Ds (b:=b) (bd:=99)) (Ax rfl) (by decide) (fun res os2 hR hcl2 hlv2=>?_)
               obtain ⟨rfl,rfl⟩:=hR
               simp (disch:=omega) only [A2,Aw,and_self,Af,Ag,amL,sB,sF,↓reduceIte]
               refine Fk (ls:=[2,7]) rfl ⟨?_,?_,trivial⟩
               · refine D4 (rem':=[3,4,5,6,7,8,9]) rfl rfl ?_
                 simp (disch:=omega) only [Af,Ag,amL,amT,sA,sB,sF,↓reduceIte]
                 refine Fk (ls:=[3,7]) rfl ⟨?_,?_,trivial⟩
                 · refine D4 (rem':=[4,5,6,7,8,9]) rfl rfl ?_
                   simp (disch:=omega) only [Af,amL,sF,sG,↓reduceIte]
                   (refine Cd (bd:=300) (by decide) (En (m:=103) ⟨by simp (disch:=omega) only [Ag,↓reduceIte],by simp (disch:=omega) only [Ag,sF,↓reduceIte]⟩ hval hli) (fun q hq=>by simp (disch:=omega) only []; exact Ax rfl q (by omega)) (by decide) (D1 _ _) ?_ ; rw [← hw] ; simp (disch:=omega) only [amL])
                   refine D6 (by kernel_rfl) ?_
                   show EL _ _ _ _ [_,_,_,_,_,_] _ _
                   simp (disch:=omega) only [and_self,Af,Ag,Az,amL,amT,sA,sB,sF,↓reduceIte]
                   try (refine A1 [(2,.ptr 2 0),(3,.ptr 3 0),(4,C3),(5,i64 0),(72,avT t),(10,.ptr 10 0)] (by decide) (Ds (b:=b) (bd:=99)) (Ax rfl) (by decide) (fun res os2 hR hcl2 hlv2=>?_) ; obtain ⟨rfl,rfl⟩:=hR ; simp (disch:=omega) only [Bj,Ba,ne_eq,Ad,A2,Aw,Bc,A4,and_self,Af,Ag,Az,Bv,B1,Bm,Bl,B2,Kr,Jr,Ls,Int.sub_zero,Int.toNat_natCast,B7,ld2,B9,amL,amT,sA,sB,sC,sD,sE,sF,sG,sH,sI,sJ,sK,sL,sM,sN,sO,↓reduceIte,reduceCtorEq])
                   try (refine Cd (bd:=300) (by decide) (En (m:=103) ⟨by simp (disch:=omega) only [Bj,Ba,ne_eq,Ad,A2,Aw,Bc,A4,and_self,Af,Ag,Az,Bv,B1,Bm,Bl,B2,Kr,Jr,Ls,Int.sub_zero,Int.toNat_natCast,B7,ld2,B9,amL,amT,sA,sB,sC,sD,sE,sF,sG,sH,sI,sJ,sK,sL,sM,sN,sO,↓reduceIte,reduceCtorEq],by simp (disch:=omega) only [Bj,Ba,ne_eq,Ad,A2,Aw,Bc,A4,and_self,Af,Ag,Az,Bv,B1,Bm,Bl,B2,Kr,Jr,Ls,Int.sub_zero,Int.toNat_natCast,B7,ld2,B9,amL,amT,sA,sB,sC,sD,sE,sF,sG,sH,sI,sJ,sK,sL,sM,sN,sO,↓reduceIte,reduceCtorEq]⟩ hval hli) (fun q hq=>by simp (disch:=omega) only [Ad]; exact Ax rfl q (by omega)) (by decide) (D1 _ _) ?_ ; rw [← hw] ; simp (disch:=omega) only [Bj,Ba,ne_eq,Ad,A2,Aw,Bc,A4,and_self,Af,Ag,Az,Bv,B1,Bm,Bl,B2,Kr,Jr,Ls,Int.sub_zero,Int.toNat_natCast,B7,ld2,B9,amL,amT,sA,sB,sC,sD,sE,sF,sG,sH,sI,sJ,sK,sL,sM,sN,sO,↓reduceIte,reduceCtorEq])
                   exact ⟨rfl,by simp (disch:=omega) only [A2,Aw,and_self,Af,sF,↓reduceIte],by simp (disch:=omega) only [Bc,A4,Ag,amL,sF,↓reduceIte] ; try exact congrArg AO.cells hpc⟩
                 · refine D4 (rem':=[3,4,5,6,8,9]) rfl rfl ?_
                   simp (disch:=omega) only [and_self,Ag,amL,amT,sA,sB,sF,↓reduceIte]
                   refine D6 (by kernel_rfl) ?_
                   show EL _ _ _ _ [_,_,_,_,_,_] _ _
                   simp (disch:=omega) only [Af,amL,sF,sG,↓reduceIte]
                   try (refine A1 [(2,.ptr 2 0),(3,.ptr 3 0),(4,C3),(5,i64 0),(72,avT t),(10,.ptr 10 0)] (by decide) (Ds (b:=b) (bd:=99)) (Ax rfl) (by decide) (fun res os2 hR hcl2 hlv2=>?_) ; obtain ⟨rfl,rfl⟩:=hR ; simp (disch:=omega) only [Bj,Ba,ne_eq,Ad,A2,Aw,Bc,A4,and_self,Af,Ag,Az,Bv,B1,Bm,Bl,B2,Kr,Jr,Ls,Int.sub_zero,Int.toNat_natCast,B7,ld2,B9,amL,amT,sA,sB,sC,sD,sE,sF,sG,sH,sI,sJ,sK,sL,sM,sN,sO,↓reduceIte,reduceCtorEq])
                   try (refine Cd (bd:=300) (by decide) (En (m:=103) ⟨by simp (disch:=omega) only [Ag,sF,↓reduceIte],by simp (disch:=omega) only [Ag,sF,↓reduceIte]⟩ hval hli) (fun q hq=>by simp (disch:=omega) only []; exact Ax rfl q (by omega)) (by decide) (D1 _ _) ?_ ; rw [← hw] ; simp (disch:=omega) only [Af,Ag,Az,amL,amT,sA,sB,sF,↓reduceIte])
                   exact ⟨rfl,by simp (disch:=omega) only [A2,Aw,and_self,Af,sF,↓reduceIte],by simp (disch:=omega) only [Bc,A4,Ag,amL,sF,↓reduceIte] ; try exact congrArg AO.cells hpc⟩
               · refine D4 (rem':=[2,3,4,5,6,8,9]) rfl rfl ?_
                 simp (disch:=omega) only [and_self,Ag,amL,amT,sA,sB,sF,↓reduceIte]
                 refine D6 (by kernel_rfl) ?_
                 show EL _ _ _ _ [_,_,_,_,_,_,_] _ _
                 simp (disch:=omega) only [Af,Ag,amL,amT,sA,sB,sF,sG,↓reduceIte]
                 try (refine A1 [(2,.ptr 2 0),(3,.ptr 3 0),(4,C3),(5,i64 0),(72,avT t),(10,.ptr 10 0)] (by decide) (Ds (b:=b) (bd:=99)) (Ax rfl) (by decide) (fun res os2 hR hcl2 hlv2=>?_) ; obtain ⟨rfl,rfl⟩:=hR ; simp (disch:=omega) only [Bj,Ba,ne_eq,Ad,A2,Aw,Bc,A4,and_self,Af,Ag,Az,Bv,B1,Bm,Bl,B2,Kr,Jr,Ls,Int.sub_zero,Int.toNat_natCast,B7,ld2,B9,amL,amT,sA,sB,sC,sD,sE,sF,sG,sH,sI,sJ,sK,sL,sM,sN,sO,↓reduceIte,reduceCtorEq])
                 try (refine Cd (bd:=300) (by decide) (En (m:=103) ⟨by simp (disch:=omega) only [Ag,sF,↓reduceIte],by simp (disch:=omega) only [Ag,sF,↓reduceIte]⟩ hval hli) (fun q hq=>by simp (disch:=omega) only []; exact Ax rfl q (by omega)) (by decide) (D1 _ _) ?_ ; rw [← hw] ; simp (disch:=omega) only [Af,Ag,Az,amL,amT,sA,sB,sF,↓reduceIte])
                 exact ⟨rfl,by simp (disch:=omega) only [A2,Aw,and_self,Af,sF,↓reduceIte],by simp (disch:=omega) only [Bc,A4,Ag,amL,sF,↓reduceIte] ; try exact congrArg AO.cells hpc⟩
             · refine D4 (rem':=[1,3,4,5,6,7,8,9]) rfl rfl ?_
               simp (disch:=omega) only [Af,Ag,amL,amT,sA,sB,sF,↓reduceIte]
               refine Fk (ls:=[1,7]) rfl ⟨?_,?_,trivial⟩
               · refine D4 (rem':=[3,4,5,6,7,8,9]) rfl rfl ?_
                 simp (disch:=omega) only [Af,amL,sF,sG,↓reduceIte]
                 refine A1 [(2,.ptr 2 0),(3,.ptr 3 0),(4,C3),(5,i64 0),(72,avT t)] (by decide) (Ds (b:=b) (bd:=99)) (Ax rfl) (by decide) (fun res os2 hR hcl2 hlv2=>?_)
                 obtain ⟨rfl,rfl⟩:=hR
                 simp (disch:=omega) only [A2,Aw,and_self,Af,Ag,amL,sB,sF,↓reduceIte]
                 refine Fk (ls:=[3,7]) rfl ⟨?_,?_,trivial⟩
                 · refine D4 (rem':=[4,5,6,7,8,9]) rfl rfl ?_
                   simp (disch:=omega) only [Af,amL,sF,sG,↓reduceIte]
                   (refine Cd (bd:=300) (by decide) (En (m:=103) ⟨by simp (disch:=omega) only [Ag,↓reduceIte],by simp (disch:=omega) only [Ag,sF,↓reduceIte]⟩ hval hli) (fun q hq=>by simp (disch:=omega) only []; exact Ax rfl q (by omega)) (by decide) (D1 _ _) ?_ ; rw [← hw] ; simp (disch:=omega) only [amL])
                   refine D6 (by kernel_rfl) ?_
                   show EL _ _ _ _ [_,_,_,_,_,_] _ _
                   simp (disch:=omega) only [and_self,Af,Ag,Az,amL,amT,sA,sB,sF,↓reduceIte]
                   try (refine A1 [(2,.ptr 2 0),(3,.ptr 3 0),(4,C3),(5,i64 0),(72,avT t),(10,.ptr 10 0)] (by decide) (Ds (b:=b) (bd:=99)) (Ax rfl) (by decide) (fun res os2 hR hcl2 hlv2=>?_) ; obtain ⟨rfl,rfl⟩:=hR ; simp (disch:=omega) only [Bj,Ba,ne_eq,Ad,A2,Aw,Bc,A4,and_self,Af,Ag,Az,Bv,B1,Bm,Bl,B2,Kr,Jr,Ls,Int.sub_zero,Int.toNat_natCast,B7,ld2,B9,amL,amT,sA,sB,sC,sD,sE,sF,sG,sH,sI,sJ,sK,sL,sM,sN,sO,↓reduceIte,reduceCtorEq])
                   try (refine Cd (bd:=300) (by decide) (En (m:=103) ⟨by simp (disch:=omega) only [Bj,Ba,ne_eq,Ad,A2,Aw,Bc,A4,and_self,Af,Ag,Az,Bv,B1,Bm,Bl,B2,Kr,Jr,Ls,Int.sub_zero,Int.toNat_natCast,B7,ld2,B9,amL,amT,sA,sB,sC,sD,sE,sF,sG,sH,sI,sJ,sK,sL,sM,sN,sO,↓reduceIte,reduceCtorEq],by simp (disch:=omega) only [Bj,Ba,ne_eq,Ad,A2,Aw,Bc,A4,and_self,Af,Ag,Az,Bv,B1,Bm,Bl,B2,Kr,Jr,Ls,Int.sub_zero,Int.toNat_natCast,B7,ld2,B9,amL,amT,sA,sB,sC,sD,sE,sF,sG,sH,sI,sJ,sK,sL,sM,sN,sO,↓reduceIte,reduceCtorEq]⟩ hval hli) (fun q hq=>by simp (disch:=omega) only [Ad]; exact Ax rfl q (by omega)) (by decide) (D1 _ _) ?_ ; rw [← hw] ; simp (disch:=omega) only [Bj,Ba,ne_eq,Ad,A2,Aw,Bc,A4,and_self,Af,Ag,Az,Bv,B1,Bm,Bl,B2,Kr,Jr,Ls,Int.sub_zero,Int.toNat_natCast,B7,ld2,B9,amL,amT,sA,sB,sC,sD,sE,sF,sG,sH,sI,sJ,sK,sL,sM,sN,sO,↓reduceIte,reduceCtorEq])
                   exact ⟨rfl,by simp (disch:=omega) only [A2,Aw,and_self,Af,sF,↓reduceIte],by simp (disch:=omega) only [Bc,A4,Ag,amL,sF,↓reduceIte] ; try exact congrArg AO.cells hpc⟩
                 · refine D4 (rem':=[3,4,5,6,8,9]) rfl rfl ?_
                   simp (disch:=omega) only [and_self,Ag,amL,amT,sA,sB,sF,↓reduceIte]
                   refine D6 (by kernel_rfl) ?_
                   show EL _ _ _ _ [_,_,_,_,_,_] _ _
                   simp (disch:=omega) only [Af,amL,sF,sG,↓reduceIte]
                   try (refine A1 [(2,.ptr 2 0),(3,.ptr 3 0),(4,C3),(5,i64 0),(72,avT t),(10,.ptr 10 0)] (by decide) (Ds (b:=b) (bd:=99)) (Ax rfl) (by decide) (fun res os2 hR hcl2 hlv2=>?_) ; obtain ⟨rfl,rfl⟩:=hR ; simp (disch:=omega) only [Bj,Ba,ne_eq,Ad,A2,Aw,Bc,A4,and_self,Af,Ag,Az,Bv,B1,Bm,Bl,B2,Kr,Jr,Ls,Int.sub_zero,Int.toNat_natCast,B7,ld2,B9,amL,amT,sA,sB,sC,sD,sE,sF,sG,sH,sI,sJ,sK,sL,sM,sN,sO,↓reduceIte,reduceCtorEq])
                   try (refine Cd (bd:=300) (by decide) (En (m:=103) ⟨by simp (disch:=omega) only [Ag,sF,↓reduceIte],by simp (disch:=omega) only [Ag,sF,↓reduceIte]⟩ hval hli) (fun q hq=>by simp (disch:=omega) only []; exact Ax rfl q (by omega)) (by decide) (D1 _ _) ?_ ; rw [← hw] ; simp (disch:=omega) only [Af,Ag,Az,amL,amT,sA,sB,sF,↓reduceIte])
                   exact ⟨rfl,by simp (disch:=omega) only [A2,Aw,and_self,Af,sF,↓reduceIte],by simp (disch:=omega) only [Bc,A4,Ag,amL,sF,↓reduceIte] ; try exact congrArg AO.cells hpc⟩
               · refine D4 (rem':=[1,3,4,5,6,8,9]) rfl rfl ?_
                 simp (disch:=omega) only [and_self,Ag,amL,amT,sA,sB,sF,↓reduceIte]
                 refine D6 (by kernel_rfl) ?_
                 show EL _ _ _ _ [_,_,_,_,_,_,_] _ _
                 simp (disch:=omega) only [Af,amL,sF,sG,↓reduceIte]
                 try (refine A1 [(2,.ptr 2 0),(3,.ptr 3 0),(4,C3),(5,i64 0),(72,avT t),(10,.ptr 10 0)] (by decide) (Ds (b:=b) (bd:=99)) (Ax rfl) (by decide) (fun res os2 hR hcl2 hlv2=>?_) ; obtain ⟨rfl,rfl⟩:=hR ; simp (disch:=omega) only [A2,Aw,and_self,Af,Ag,amL,sB,sF,sG,↓reduceIte])
                 try (refine Cd (bd:=300) (by decide) (En (m:=103) ⟨by simp (disch:=omega) only [Ag,↓reduceIte],by simp (disch:=omega) only [Ag,sF,↓reduceIte]⟩ hval hli) (fun q hq=>by simp (disch:=omega) only []; exact Ax rfl q (by omega)) (by decide) (D1 _ _) ?_ ; rw [← hw] ; simp (disch:=omega) only [Af,Ag,Az,amL,amT,sA,sB,sF,↓reduceIte])
                 exact ⟨rfl,by simp (disch:=omega) only [A2,Aw,and_self,Af,sF,↓reduceIte],by simp (disch:=omega) only [Bc,A4,Ag,amL,sF,↓reduceIte] ; try exact congrArg AO.cells hpc⟩
             · refine D4 (rem':=[1,2,3,4,5,6,8,9]) rfl rfl ?_
               simp (disch:=omega) only [and_self,Ag,amL,amT,sA,sB,sF,↓reduceIte]
               refine Fk (ls:=[1,2]) rfl ⟨?_,?_,trivial⟩
               · refine D4 (rem':=[2,3,4,5,6,8,9]) rfl rfl ?_
                 simp (disch:=omega) only [Af,amL,sF,sG,↓reduceIte]
                 refine A1 [(2,.ptr 2 0),(3,.ptr 3 0),(4,C3),(5,i64 0),(10,.ptr 10 0)] (by decide) (Ds (b:=b) (bd:=99)) (Ax rfl) (by decide) (fun res os2 hR hcl2 hlv2=>?_)
                 obtain ⟨rfl,rfl⟩:=hR
                 simp (disch:=omega) only [A2,Aw,and_self,Af,Ag,amL,sB,sF,↓reduceIte]
                 refine D6 (by kernel_rfl) ?_
                 show EL _ _ _ _ [_,_,_,_,_,_,_] _ _
                 simp (disch:=omega) only [Af,Ag,amL,amT,sA,sB,sF,sG,↓reduceIte]
                 try (refine A1 [(2,.ptr 2 0),(3,.ptr 3 0),(4,C3),(5,i64 0),(72,avT t),(10,.ptr 10 0)] (by decide) (Ds (b:=b) (bd:=99)) (Ax rfl) (by decide) (fun res os2 hR hcl2 hlv2=>?_) ; obtain ⟨rfl,rfl⟩:=hR ; simp (disch:=omega) only [Bj,Ba,ne_eq,Ad,A2,Aw,Bc,A4,and_self,Af,Ag,Az,Bv,B1,Bm,Bl,B2,Kr,Jr,Ls,Int.sub_zero,Int.toNat_natCast,B7,ld2,B9,amL,amT,sA,sB,sC,sD,sE,sF,sG,sH,sI,sJ,sK,sL,sM,sN,sO,↓reduceIte,reduceCtorEq])
                 try (refine Cd (bd:=300) (by decide) (En (m:=103) ⟨by simp (disch:=omega) only [Ag,↓reduceIte],by simp (disch:=omega) only [Ag,sF,↓reduceIte]⟩ hval hli) (fun q hq=>by simp (disch:=omega) only []; exact Ax rfl q (by omega)) (by decide) (D1 _ _) ?_ ; rw [← hw] ; simp (disch:=omega) only [Af,Ag,Az,amL,amT,sA,sB,sF,↓reduceIte])
                 exact ⟨rfl,by simp (disch:=omega) only [A2,Aw,and_self,Af,sF,↓reduceIte],by simp (disch:=omega) only [Bc,A4,Ag,amL,sF,↓reduceIte] ; try exact congrArg AO.cells hpc⟩
               · refine D4 (rem':=[1,3,4,5,6,8,9]) rfl rfl ?_
                 simp (disch:=omega) only [Af,Ag,amL,amT,sA,sB,sF,↓reduceIte]
                 refine D6 (by kernel_rfl) ?_
                 show EL _ _ _ _ [_,_,_,_,_,_,_] _ _
                 simp (disch:=omega) only [Af,amL,sF,sG,↓reduceIte]
                 try (refine A1 [(2,.ptr 2 0),(3,.ptr 3 0),(4,C3),(5,i64 0),(72,avT t),(10,.ptr 10 0)] (by decide) (Ds (b:=b) (bd:=99)) (Ax rfl) (by decide) (fun res os2 hR hcl2 hlv2=>?_) ; obtain ⟨rfl,rfl⟩:=hR ; simp (disch:=omega) only [A2,Aw,and_self,Af,Ag,amL,sB,sF,sG,↓reduceIte])
                 try (refine Cd (bd:=300) (by decide) (En (m:=103) ⟨by simp (disch:=omega) only [Ag,↓reduceIte],by simp (disch:=omega) only [Ag,sF,↓reduceIte]⟩ hval hli) (fun q hq=>by simp (disch:=omega) only []; exact Ax rfl q (by omega)) (by decide) (D1 _ _) ?_ ; rw [← hw] ; simp (disch:=omega) only [Af,Ag,Az,amL,amT,sA,sB,sF,↓reduceIte])
                 exact ⟨rfl,by simp (disch:=omega) only [A2,Aw,and_self,Af,sF,↓reduceIte],by simp (disch:=omega) only [Bc,A4,Ag,amL,sF,↓reduceIte] ; try exact congrArg AO.cells hpc⟩
           · refine D4 (rem':=[0,1,3,4,5,6,7,8,9]) rfl rfl ?_
             simp (disch:=omega) only [Af,Ag,amL,amT,sA,sB,sF,↓reduceIte]
             refine Fk (ls:=[0,7]) rfl ⟨?_,?_,trivial⟩
             · refine D4 (rem':=[1,3,4,5,6,7,8,9]) rfl rfl ?_
               simp (disch:=omega) only [Af,Ag,amL,amT,sA,sB,sF,↓reduceIte]
               refine Fk (ls:=[1,7]) rfl ⟨?_,?_,trivial⟩
               · refine D4 (rem':=[3,4,5,6,7,8,9]) rfl rfl ?_
                 simp (disch:=omega) only [Af,amL,sG,↓reduceIte]
                 refine A1 [(2,.ptr 2 0),(3,.ptr 3 0),(4,C3),(5,i64 0),(72,avT t)] (by decide) (Ds (b:=b) (bd:=99)) (Ax rfl) (by decide) (fun res os2 hR hcl2 hlv2=>?_)
                 obtain ⟨rfl,rfl⟩:=hR
                 simp (disch:=omega) only [A2,Aw,and_self,Af,Ag,amL,sB,sF,↓reduceIte]
                 refine Fk (ls:=[3,7]) rfl ⟨?_,?_,trivial⟩
                 · refine D4 (rem':=[4,5,6,7,8,9]) rfl rfl ?_
                   simp (disch:=omega) only [Af,amL,sF,sG,↓reduceIte]
                   (refine Cd (bd:=300) (by decide) (En (m:=103) ⟨by simp (disch:=omega) only [Ag,↓reduceIte],by simp (disch:=omega) only [Ag,sF,↓reduceIte]⟩ hval hli) (fun q hq=>by simp (disch:=omega) only []; exact Ax rfl q (by omega)) (by decide) (D1 _ _) ?_ ; rw [← hw] ; simp (disch:=omega) only [amL])
                   refine D6 (by kernel_rfl) ?_
                   show EL _ _ _ _ [_,_,_,_,_,_] _ _
                   simp (disch:=omega) only [and_self,Af,Ag,Az,amL,amT,sA,sB,sF,↓reduceIte]
                   try (refine A1 [(2,.ptr 2 0),(3,.ptr 3 0),(4,C3),(5,i64 0),(72,avT t),(10,.ptr 10 0)] (by decide) (Ds (b:=b) (bd:=99)) (Ax rfl) (by decide) (fun res os2 hR hcl2 hlv2=>?_) ; obtain ⟨rfl,rfl⟩:=hR ; simp (disch:=omega) only [Bj,Ba,ne_eq,Ad,A2,Aw,Bc,A4,and_self,Af,Ag,Az,Bv,B1,Bm,Bl,B2,Kr,Jr,Ls,Int.sub_zero,Int.toNat_natCast,B7,ld2,B9,amL,amT,sA,sB,sC,sD,sE,sF,sG,sH,sI,sJ,sK,sL,sM,sN,sO,↓reduceIte,reduceCtorEq])
                   try (refine Cd (bd:=300) (by decide) (En (m:=103) ⟨by simp (disch:=omega) only [Bj,Ba,ne_eq,Ad,A2,Aw,Bc,A4,and_self,Af,Ag,Az,Bv,B1,Bm,Bl,B2,Kr,Jr,Ls,Int.sub_zero,Int.toNat_natCast,B7,ld2,B9,amL,amT,sA,sB,sC,sD,sE,sF,sG,sH,sI,sJ,sK,sL,sM,sN,sO,↓reduceIte,reduceCtorEq],by simp (disch:=omega) only [Bj,Ba,ne_eq,Ad,A2,Aw,Bc,A4,and_self,Af,Ag,Az,Bv,B1,Bm,Bl,B2,Kr,Jr,Ls,Int.sub_zero,Int.toNat_natCast,B7,ld2,B9,amL,amT,sA,sB,sC,sD,sE,sF,sG,sH,sI,sJ,sK,sL,sM,sN,sO,↓reduceIte,reduceCtorEq]⟩ hval hli) (fun q hq=>by simp (disch:=omega) only [Ad]; exact Ax rfl q (by omega)) (by decide) (D1 _ _) ?_ ; rw [← hw] ; simp (disch:=omega) only [Bj,Ba,ne_eq,Ad,A2,Aw,Bc,A4,and_self,Af,Ag,Az,Bv,B1,Bm,Bl,B2,Kr,Jr,Ls,Int.sub_zero,Int.toNat_natCast,B7,ld2,B9,amL,amT,sA,sB,sC,sD,sE,sF,sG,sH,sI,sJ,sK,sL,sM,sN,sO,↓reduceIte,reduceCtorEq])
                   exact ⟨rfl,by simp (disch:=omega) only [A2,Aw,and_self,Af,sF,↓reduceIte],by simp (disch:=omega) only [Bc,A4,Ag,amL,sF,↓reduceIte] ; try exact congrArg AO.cells hpc⟩
                 · refine D4 (rem':=[3,4,5,6,8,9]) rfl rfl ?_
                   simp (disch:=omega) only [and_self,Ag,amL,amT,sA,sB,sF,↓reduceIte]
                   refine D6 (by kernel_rfl) ?_
                   show EL _ _ _ _ [_,_,_,_,_,_] _ _
                   simp (disch:=omega) only [Af,amL,sF,sG,↓reduceIte]
                   try (refine A1 [(2,.ptr 2 0),(3,.ptr 3 0),(4,C3),(5,i64 0),(72,avT t),(10,.ptr 10 0)] (by decide) (Ds (b:=b) (bd:=99)) (Ax rfl) (by decide) (fun res os2 hR hcl2 hlv2=>?_) ; obtain ⟨rfl,rfl⟩:=hR ; simp (disch:=omega) only [Bj,Ba,ne_eq,Ad,A2,Aw,Bc,A4,and_self,Af,Ag,Az,Bv,B1,Bm,Bl,B2,Kr,Jr,Ls,Int.sub_zero,Int.toNat_natCast,B7,ld2,B9,amL,amT,sA,sB,sC,sD,sE,sF,sG,sH,sI,sJ,sK,sL,sM,sN,sO,↓reduceIte,reduceCtorEq])
                   try (refine Cd (bd:=300) (by decide) (En (m:=103) ⟨by simp (disch:=omega) only [Ag,sF,↓reduceIte],by simp (disch:=omega) only [Ag,sF,↓reduceIte]⟩ hval hli) (fun q hq=>by simp (disch:=omega) only []; exact Ax rfl q (by omega)) (by decide) (D1 _ _) ?_ ; rw [← hw] ; simp (disch:=omega) only [Af,Ag,Az,amL,amT,sA,sB,sF,↓reduceIte])
                   exact ⟨rfl,by simp (disch:=omega) only [A2,Aw,and_self,Af,sF,↓reduceIte],by simp (disch:=omega) only [Bc,A4,Ag,amL,sF,↓reduceIte] ; try exact congrArg AO.cells hpc⟩
               · refine D4 (rem':=[1,3,4,5,6,8,9]) rfl rfl ?_
                 simp (disch:=omega) only [and_self,Ag,amL,amT,sA,sB,sF,↓reduceIte]
                 refine D6 (by kernel_rfl) ?_
                 show EL _ _ _ _ [_,_,_,_,_,_,_] _ _
                 simp (disch:=omega) only [Af,amL,sF,sG,↓reduceIte]
                 try (refine A1 [(2,.ptr 2 0),(3,.ptr 3 0),(4,C3),(5,i64 0),(72,avT t),(10,.ptr 10 0)] (by decide) (Ds (b:=b) (bd:=99)) (Ax rfl) (by decide) (fun res os2 hR hcl2 hlv2=>?_) ; obtain ⟨rfl,rfl⟩:=hR ; simp (disch:=omega) only [A2,Aw,and_self,Af,Ag,amL,sB,sF,sG,↓reduceIte])
                 try (refine Cd (bd:=300) (by decide) (En (m:=103) ⟨by simp (disch:=omega) only [Ag,↓reduceIte],by simp (disch:=omega) only [Ag,sF,↓reduceIte]⟩ hval hli) (fun q hq=>by simp (disch:=omega) only []; exact Ax rfl q (by omega)) (by decide) (D1 _ _) ?_ ; rw [← hw] ; simp (disch:=omega) only [Af,Ag,Az,amL,amT,sA,sB,sF,↓reduceIte])
                 exact ⟨rfl,by simp (disch:=omega) only [A2,Aw,and_self,Af,sF,↓reduceIte],by simp (disch:=omega) only [Bc,A4,Ag,amL,sF,↓reduceIte] ; try exact congrArg AO.cells hpc⟩
             · refine D4 (rem':=[0,1,3,4,5,6,8,9]) rfl rfl ?_
               simp (disch:=omega) only [and_self,Ag,amL,amT,sA,sB,sF,↓reduceIte]
               refine D6 (by kernel_rfl) ?_
               show EL _ _ _ _ [_,_,_,_,_,_,_,_] _ _
               simp (disch:=omega) only [Af,Ag,amL,amT,sA,sB,sF,sG,↓reduceIte]
               try (refine A1 [(2,.ptr 2 0),(3,.ptr 3 0),(4,C3),(5,i64 0),(72,avT t),(10,.ptr 10 0)] (by decide) (Ds (b:=b) (bd:=99)) (Ax rfl) (by decide) (fun res os2 hR hcl2 hlv2=>?_) ; obtain ⟨rfl,rfl⟩:=hR ; simp (disch:=omega) only [A2,Aw,and_self,Af,Ag,amL,sB,sF,sG,↓reduceIte])
               try (refine Cd (bd:=300) (by decide) (En (m:=103) ⟨by simp (disch:=omega) only [Ag,↓reduceIte],by simp (disch:=omega) only [Ag,sF,↓reduceIte]⟩ hval hli) (fun q hq=>by simp (disch:=omega) only []; exact Ax rfl q (by omega)) (by decide) (D1 _ _) ?_ ; rw [← hw] ; simp (disch:=omega) only [Af,Ag,Az,amL,amT,sA,sB,sF,↓reduceIte])
               exact ⟨rfl,by simp (disch:=omega) only [A2,Aw,and_self,Af,sF,↓reduceIte],by simp (disch:=omega) only [Bc,A4,Ag,amL,sF,↓reduceIte] ; try exact congrArg AO.cells hpc⟩
           · refine D4 (rem':=[0,1,2,3,4,5,6,8,9]) rfl rfl ?_
             simp (disch:=omega) only [and_self,Ag,amL,amT,sA,sB,sF,↓reduceIte]
             refine Fk (ls:=[0,2]) rfl ⟨?_,?_,trivial⟩
             · refine D4 (rem':=[1,2,3,4,5,6,8,9]) rfl rfl ?_
               simp (disch:=omega) only [Af,Ag,amL,amT,sA,sB,sF,↓reduceIte]
               refine Fk (ls:=[1,2]) rfl ⟨?_,?_,trivial⟩
               · refine D4 (rem':=[2,3,4,5,6,8,9]) rfl rfl ?_
                 simp (disch:=omega) only [Af,amL,sG,↓reduceIte]
                 refine A1 [(2,.ptr 2 0),(3,.ptr 3 0),(4,C3),(5,i64 0),(10,.ptr 10 0)] (by decide) (Ds (b:=b) (bd:=99)) (Ax rfl) (by decide) (fun res os2 hR hcl2 hlv2=>?_)
                 obtain ⟨rfl,rfl⟩:=hR
                 simp (disch:=omega) only [A2,Aw,and_self,Af,Ag,amL,sB,sF,↓reduceIte]
                 refine D6 (by kernel_rfl) ?_
                 show EL _ _ _ _ [_,_,_,_,_,_,_] _ _
                 simp (disch:=omega) only [Af,Ag,amL,amT,sA,sB,sF,sG,↓reduceIte]
                 try (refine A1 [(2,.ptr 2 0),(3,.ptr 3 0),(4,C3),(5,i64 0),(72,avT t),(10,.ptr 10 0)] (by decide) (Ds (b:=b) (bd:=99)) (Ax rfl) (by decide) (fun res os2 hR hcl2 hlv2=>?_) ; obtain ⟨rfl,rfl⟩:=hR ; simp (disch:=omega) only [Bj,Ba,ne_eq,Ad,A2,Aw,Bc,A4,and_self,Af,Ag,Az,Bv,B1,Bm,Bl,B2,Kr,Jr,Ls,Int.sub_zero,Int.toNat_natCast,B7,ld2,B9,amL,amT,sA,sB,sC,sD,sE,sF,sG,sH,sI,sJ,sK,sL,sM,sN,sO,↓reduceIte,reduceCtorEq])
                 try (refine Cd (bd:=300) (by decide) (En (m:=103) ⟨by simp (disch:=omega) only [Ag,↓reduceIte],by simp (disch:=omega) only [Ag,sF,↓reduceIte]⟩ hval hli) (fun q hq=>by simp (disch:=omega) only []; exact Ax rfl q (by omega)) (by decide) (D1 _ _) ?_ ; rw [← hw] ; simp (disch:=omega) only [Af,Ag,Az,amL,amT,sA,sB,sF,↓reduceIte])
                 exact ⟨rfl,by simp (disch:=omega) only [A2,Aw,and_self,Af,sF,↓reduceIte],by simp (disch:=omega) only [Bc,A4,Ag,amL,sF,↓reduceIte] ; try exact congrArg AO.cells hpc⟩
               · refine D4 (rem':=[1,3,4,5,6,8,9]) rfl rfl ?_
                 simp (disch:=omega) only [Af,Ag,amL,amT,sA,sB,sF,↓reduceIte]
                 refine D6 (by kernel_rfl) ?_
                 show EL _ _ _ _ [_,_,_,_,_,_,_] _ _
                 simp (disch:=omega) only [Af,amL,sF,sG,↓reduceIte]
                 try (refine A1 [(2,.ptr 2 0),(3,.ptr 3 0),(4,C3),(5,i64 0),(72,avT t),(10,.ptr 10 0)] (by decide) (Ds (b:=b) (bd:=99)) (Ax rfl) (by decide) (fun res os2 hR hcl2 hlv2=>?_) ; obtain ⟨rfl,rfl⟩:=hR ; simp (disch:=omega) only [A2,Aw,and_self,Af,Ag,amL,sB,sF,sG,↓reduceIte])
                 try (refine Cd (bd:=300) (by decide) (En (m:=103) ⟨by simp (disch:=omega) only [Ag,↓reduceIte],by simp (disch:=omega) only [Ag,sF,↓reduceIte]⟩ hval hli) (fun q hq=>by simp (disch:=omega) only []; exact Ax rfl q (by omega)) (by decide) (D1 _ _) ?_ ; rw [← hw] ; simp (disch:=omega) only [Af,Ag,Az,amL,amT,sA,sB,sF,↓reduceIte])
                 exact ⟨rfl,by simp (disch:=omega) only [A2,Aw,and_self,Af,sF,↓reduceIte],by simp (disch:=omega) only [Bc,A4,Ag,amL,sF,↓reduceIte] ; try exact congrArg AO.cells hpc⟩
             · refine D4 (rem':=[0,1,3,4,5,6,8,9]) rfl rfl ?_
               simp (disch:=omega) only [Af,Ag,amL,amT,sA,sB,sF,↓reduceIte]
               refine D6 (by kernel_rfl) ?_
               show EL _ _ _ _ [_,_,_,_,_,_,_,_] _ _
               simp (disch:=omega) only [Af,Ag,amL,amT,sA,sB,sF,sG,↓reduceIte]
               try (refine A1 [(2,.ptr 2 0),(3,.ptr 3 0),(4,C3),(5,i64 0),(72,avT t),(10,.ptr 10 0)] (by decide) (Ds (b:=b) (bd:=99)) (Ax rfl) (by decide) (fun res os2 hR hcl2 hlv2=>?_) ; obtain ⟨rfl,rfl⟩:=hR ; simp (disch:=omega) only [A2,Aw,and_self,Af,Ag,amL,sB,sF,sG,↓reduceIte])
               try (refine Cd (bd:=300) (by decide) (En (m:=103) ⟨by simp (disch:=omega) only [Ag,↓reduceIte],by simp (disch:=omega) only [Ag,sF,↓reduceIte]⟩ hval hli) (fun q hq=>by simp (disch:=omega) only []; exact Ax rfl q (by omega)) (by decide) (D1 _ _) ?_ ; rw [← hw] ; simp (disch:=omega) only [Af,Ag,Az,amL,amT,sA,sB,sF,↓reduceIte])
               exact ⟨rfl,by simp (disch:=omega) only [A2,Aw,and_self,Af,sF,↓reduceIte],by simp (disch:=omega) only [Bc,A4,Ag,amL,sF,↓reduceIte] ; try exact congrArg AO.cells hpc⟩
         refine hK19 _ ?_
         refine Aa fun K20 hK20=>?_
         refine Aa fun K21 hK21=>?_
         refine Ac ?_
         simp (disch:=omega) only [Af,amL,sA,sF,↓reduceIte]
         refine hK21 _ ?_
         refine Aj rfl (fun h=>?_) (fun h=>?_)
         ·first
          | exact Bool.noConfusion h
          |skip
           try simp only [Bool.not_eq_true'] at h
           refine Aa fun K22 hK22=>?_
           refine Ac ?_
           simp (disch:=omega) only [amL,sA]
           refine hK22 _ ?_
           refine Ah ?_
           try simp (disch:=omega) only [Af,amL,sF,↓reduceIte]
           all_goals first | (rw [Dk,if_neg (by assumption)]; done) | (have e9:k=b.vs.length:=(by omega) ; rw [Dk,if_pos hf0,if_pos hli,if_pos hbt,List.take_of_length_le (by simp ; omega),e9,hw] ; done) | (rw [Dk,if_pos hf0,if_pos hli,if_neg (by simpa using h)]; done) | (rw [Dk,if_pos (by omega),if_neg (fun e=>by have:=Dn e; omega)]; done) | (rw [Dk,if_pos (by omega),if_neg (fun e=>by have:=Kh e (k:=k) (by omega); simp_all)]; done) | trace_state
         ·first
          | exact Bool.noConfusion h
          |skip
           try simp only [Bool.not_eq_false'] at h
           refine Ak ?_
           refine hK20 _ ?_
           refine Aa fun K23 hK23=>?_
           refine Ac ?_
           simp (disch:=omega) only [amL,sA]
           refine hK23 _ ?_
           refine Aa fun K24 hK24=>?_
           refine Aa fun K25 hK25=>?_
           refine Ac ?_
           have hbt:(Mr b t).2=true:=by simpa using h
           have hsm:=(hwo hbt).small
           have hv4:=hval.nv
           simp (disch:=omega) only [and_self,Af,Ag,Bv,B1,Bm,Bl,B2,Int.sub_zero,Int.toNat_natCast,amL,amT,sA,sF,sH,sK,sL,sN,↓reduceIte,reduceCtorEq]
           refine hK25 _ ?_
           refine Am ?_
           refine Ps 96 3 12 (by decide) rfl rfl ?_
           refine Bb (α:=Nat) (fun k=>⟨T [(2,.ptr 2 0),(12,.own 96 k),(81,.csl 10 0 2 b.vs.length),(82,i64 b.vs.length),(83,i64 (k:Int))],O [(2,.cells (cB b)),(10,.cells (cW w)),(96,.arr 3 ((w.take k).map fun l=>Be0 (Beb l)))]⟩) (fun k=>b.vs.length - k) (fun k=>k≤b.vs.length) 0 ?_ ?_ (fun k hx26 K26 hK26=>?_)
           · exact Nat.zero_le _
           · refine C8 ?_ ?_ ?_ ?_ <;> (try simp (disch:=omega) only [A2,Aw,Bc,A4,and_self,Af,Ag,amL,sF,sG,↓reduceIte]); all_goals first | rfl | exact Afu _ | trace_state
           have hk:=hx26
           refine Aa fun K27 hK27=>?_
           refine Ac ?_
           simp (disch:=omega) only [Af,amL,amT,sA,sF,↓reduceIte]
           refine hK27 _ ?_
           refine Aa fun K28 hK28=>?_
           refine Aj rfl (fun h=>?_) (fun h=>?_)
           ·first
            | exact Bool.noConfusion h
            |skip
             try simp only [decide_eq_true_eq] at h
             refine Ak ?_
             refine hK28 _ ?_
             refine Aa fun K29 hK29=>?_
             refine Am ?_
             refine Aa fun K30 hK30=>?_
             refine Ac ?_
             simp (disch:=omega) only [and_self,Af,Ag,Az,Int.toNat_natCast,B7,amL,amT,sA,sB,sE,sF,↓reduceIte]
             refine hK30 _ ?_
             refine Cb (by kernel_rfl) (by kernel_rfl) ?_
             simp (disch:=omega) only [Af,Ag,amL,amT,sA,sB,sF,sG,↓reduceIte,reduceCtorEq]
             repeat' first | (refine Aq (by kernel_rfl) rfl (Xt (w.getD k default) (hsm k)) (by first | exact .inl rfl | exact .inr (.inl rfl)) ?_ ; simp (disch:=omega) only [and_self,Af,Ag,B9,amL,amT,sA,sB,sC,sE,sF,↓reduceIte,reduceCtorEq])
             refine hK29 _ ?_
             refine Ac ?_
             simp (disch:=omega) only [Af,amL,amT,sA,sF,↓reduceIte]
             refine hK26 (k+1) _ ?_ ?_ (C8 ?_ ?_ ?_ ?_)
             all_goals (try simp (disch:=omega) only [A2,Aw,Bc,A4,and_self,Af,Ag,amL,sF,sG,↓reduceIte])
             all_goals first | omega | exact congrArg (AO.arr 3) (Aca default (by omega)) | exact congrArg (AO.arr 3) (Aca default (by omega)).symm | exact Afu _ | trace_state
           ·first
            | exact Bool.noConfusion h
            |skip
             try simp only [decide_eq_false_iff_not] at h
             refine Bn ?_
             refine hK24 _ ?_
             refine Aa fun K31 hK31=>?_
             refine Ac ?_
             simp (disch:=omega) only [Af,amL,sA,sF,↓reduceIte]
             refine hK31 _ ?_
             refine Ah ?_
             try simp (disch:=omega) only [Af,Ag,amL,sF,↓reduceIte]
             all_goals first | (rw [Dk,if_neg (by assumption)]; done) | (have e9:k=b.vs.length:=(by omega) ; rw [Dk,if_pos hf0,if_pos hli,if_pos hbt,List.take_of_length_le (by simp ; omega),e9,hw] ; done) | (rw [Dk,if_pos hf0,if_pos hli,if_neg (by simpa using h)]; done) | (rw [Dk,if_pos (by omega),if_neg (fun e=>by have:=Dn e; omega)]; done) | (rw [Dk,if_pos (by omega),if_neg (fun e=>by have:=Kh e (k:=k) (by omega); simp_all)]; done) | trace_state
section
variable {P:Program} {r:RB} {N:Nat} {K:St→Prop} {st:St}
theorem Ae0 {o:Oper} {t u:TypeId} {e:TypeId} {x:Operand} (ho:o.op=.binOp .eql t x (.const (.slice none 0 0)) u) (hd:∀ k,o.dst=some k→k < N) (ht:(Ab P t).k=.sl e) (hx:ev st.t x=C3) (h:K (st.put o.dst (bl true))):B5 P r N o st K:=by
  intro B S θ M w a Q hs
  refine ⟨fun _ _=>trivial,?_⟩
  rw [Oper.semAt_eq _ _ _ (by rw [ho]; intro c h; cases h)]
  have hv:a.eval x=.slice none 0 0:=by
    have hr:=Ao hs x
    rw [hx] at hr
    generalize a.eval x=v at hr
    cases hr with
    | p _ _ hp=>cases hp; rfl
  have hrun:(execOp a.eval o).run P w=.ok (.value (.bool true)) w:=by
    simp only [execOp,ho,hv]
    refine K0 ?_
    simp [Act.eval,eqGuard,binOp,run_equal_slice_nil w t e none 0 0 (D5 ht)]
  rw [hrun]
  exact ⟨_,h,(Adv.put hs hd (.p _ _ (.val _ rfl)) (AV.lives_p _ _)).toM,by cases o.dst <;> rfl⟩
theorem Pe {Q:AEx→St→Prop} {id d0 d1 i:Nat} {t u e ty0 ty1:TypeId} {pos0 pos1:String} {af0 af1:Array Edge} (h0:d0 < N) (h1:d1 < N) (ht:(Ab P t).k=.sl e) (hx:st.t i=C3)
    (h:Q .normal ((st.put (some d0) (st.t i)).put (some d1) (bl true))) :
    AWP P r N (.region id [(⟨some d0,.move (.tmp i),ty0,pos0,af0,none⟩:Oper),⟨some d1,.binOp .eql t (.tmp d0) (.const (.slice none 0 0)) u,ty1,pos1,af1,none⟩].toArray false) st Q:=by
  refine C0 (AL.step (Ff ?_))
  rw [Ag1]
  refine ⟨by simpa using h0,AL.step (Ae0 rfl (fun k hk=>by cases hk; exact h1) ht (x:=.tmp d0) ?_ (AL.nil h))⟩
  show (st.put (some d0) (st.t i)).t d0=C3
  have:(st.put (some d0) (st.t i)).t d0=st.t i:=by simp [St.put,upd]
  rw [this]; exact hx
end
theorem Am3 (es:List (List PV)) (hk:(es.all fun c=>decide (c.length=1))=true) (hv:(es.all fun e=>e.all PV.isVal)=true) (hl:es.length < 1000000):Jh Try.prog 179 [.p (.sl es)] 1 es:=by
  refine Kk (v:=[]) (q:=[]) (N:=8) (i:=2) Try.func179 rfl rfl rfl rfl ?_
  refine Aa fun K1 hK1=>?_
  refine Ac ?_
  simp (disch:=omega) only [amL,sA]
  refine hK1 _ ?_
  refine Aa fun K2 hK2=>?_
  refine Aa fun K3 hK3=>?_
  refine Rd (e:=3) (by decide) (by decide) (by simp only [amT]) rfl (fun b hb=>?_)
  simp (disch:=omega) only [amL,↓reduceIte,reduceCtorEq]
  refine hK3 _ ?_
  refine Aj rfl (fun h=>?_) (fun h=>?_)
  ·first
   | exact Bool.noConfusion h
   |skip
    try simp only [Bool.not_eq_true',decide_eq_true_eq,decide_eq_false_iff_not,Bool.and_eq_true,Bool.not_eq_false',Bool.not_not,decide_not,Bool.not_true,Bool.not_false] at h
    refine Aa fun K4 hK4=>?_
    refine Ac ?_
    simp (disch:=omega) only [amL,sA]
    refine hK4 _ ?_
    refine Ah ?_
    try simp (disch:=omega) only [Dw,amL,↓reduceIte]
    first | ((have e:es=[]:=by have:=hb h; simpa using this); subst e; rfl) | exact Ks rfl (by simp) hv | trace_state
  ·first
   | exact Bool.noConfusion h
   |skip
    try simp only [Bool.not_eq_true',decide_eq_true_eq,decide_eq_false_iff_not,Bool.and_eq_true,Bool.not_eq_false',Bool.not_not,decide_not,Bool.not_true,Bool.not_false] at h
    refine Ak ?_
    refine hK2 _ ?_
    refine Aa fun K5 hK5=>?_
    refine Ac ?_
    simp (disch:=omega) only [hk,amL,amT,sA,sF,↓reduceIte,reduceCtorEq]
    refine hK5 _ ?_
    refine Ah ?_
    try simp (disch:=omega) only [Dw,amL,↓reduceIte]
    first | ((have e:es=[]:=by have:=hb h; simpa using this); subst e; rfl) | exact Ks rfl (by simp) hv | trace_state
theorem Acu (es:List (List PV)) (hk:(es.all fun c=>decide (c.length=5))=true) (hv:(es.all fun e=>e.all PV.isVal)=true) (hl:es.length < 1000000):Jh Try.prog 90 [.p (.sl es)] 5 es:=by
  refine Kk (v:=[]) (q:=[]) (N:=8) (i:=2) Try.func90 rfl rfl rfl rfl ?_
  refine Aa fun K1 hK1=>?_
  refine Ac ?_
  simp (disch:=omega) only [amL,sA]
  refine hK1 _ ?_
  refine Aa fun K2 hK2=>?_
  refine Aa fun K3 hK3=>?_
  refine Rd (e:=58) (by decide) (by decide) (by simp only [amT]) rfl (fun b hb=>?_)
  simp (disch:=omega) only [amL,↓reduceIte,reduceCtorEq]
  refine hK3 _ ?_
  refine Aj rfl (fun h=>?_) (fun h=>?_)
  ·first
   | exact Bool.noConfusion h
   |skip
    try simp only [Bool.not_eq_true',decide_eq_true_eq,decide_eq_false_iff_not,Bool.and_eq_true,Bool.not_eq_false',Bool.not_not,decide_not,Bool.not_true,Bool.not_false] at h
    refine Aa fun K4 hK4=>?_
    refine Ac ?_
    simp (disch:=omega) only [amL,sA]
    refine hK4 _ ?_
    refine Ah ?_
    try simp (disch:=omega) only [Dw,amL,↓reduceIte]
    first | ((have e:es=[]:=by have:=hb h; simpa using this); subst e; rfl) | exact Ks rfl (by simp) hv | trace_state
  ·first
   | exact Bool.noConfusion h
   |skip
    try simp only [Bool.not_eq_true',decide_eq_true_eq,decide_eq_false_iff_not,Bool.and_eq_true,Bool.not_eq_false',Bool.not_not,decide_not,Bool.not_true,Bool.not_false] at h
    refine Ak ?_
    refine hK2 _ ?_
    refine Aa fun K5 hK5=>?_
    refine Ac ?_
    simp (disch:=omega) only [hk,amL,amT,sA,sB,sF,↓reduceIte,reduceCtorEq]
    refine hK5 _ ?_
    refine Ah ?_
    try simp (disch:=omega) only [Dw,amL,↓reduceIte]
    first | ((have e:es=[]:=by have:=hb h; simpa using this); subst e; rfl) | exact Ks rfl (by simp) hv | trace_state
theorem Aki:Jh Try.prog 179 [C3] 1 []:=by
  refine Kk (v:=[]) (q:=[]) (N:=8) (i:=2) Try.func179 rfl rfl rfl rfl ?_
  refine Aa fun K1 hK1=>?_
  refine Ac ?_
  simp (disch:=omega) only [amL,sA]
  refine hK1 _ ?_
  refine Aa fun K2 hK2=>?_
  refine Aa fun K3 hK3=>?_
  refine Pe (e:=3) (by decide) (by decide) (by simp only [amT]) rfl ?_
  simp (disch:=omega) only [amL,↓reduceIte,reduceCtorEq]
  refine hK3 _ ?_
  refine Aj rfl (fun h=>?_) (fun h=>?_)
  ·first
   | exact Bool.noConfusion h
   |skip
    try simp only [] at h
    refine Aa fun K4 hK4=>?_
    refine Ac ?_
    simp (disch:=omega) only [amL,sA]
    refine hK4 _ ?_
    refine Ah ?_
    try simp (disch:=omega) only [Dw,amL,↓reduceIte]
    first | rfl | trace_state
  ·first
   | exact Bool.noConfusion h
   |skip
    try simp only [Bool.not_eq_true',decide_eq_true_eq,decide_eq_false_iff_not,Bool.and_eq_true,Bool.not_eq_false',Bool.not_not,decide_not,Bool.not_true,Bool.not_false] at h
    refine Ak ?_
    refine hK2 _ ?_
    refine Aa fun K5 hK5=>?_
    refine Ac ?_
    simp (disch:=omega) only [J0,Dw,amL,amT,sA,sB,sC,sD,sE,sF,sG,sH,sI,sJ,sK,sL,sM,sN,sO,↓reduceIte,reduceCtorEq]
    refine hK5 _ ?_
    refine Ah ?_
    try simp (disch:=omega) only [J0,Dw,amL,amT,sA,sB,sC,sD,sE,sF,sG,sH,sI,sJ,sK,sL,sM,sN,sO,↓reduceIte,reduceCtorEq]
    first | rfl | trace_state
theorem Aj9:Jh Try.prog 90 [C3] 5 []:=by
  refine Kk (v:=[]) (q:=[]) (N:=8) (i:=2) Try.func90 rfl rfl rfl rfl ?_
  refine Aa fun K1 hK1=>?_
  refine Ac ?_
  simp (disch:=omega) only [amL,sA]
  refine hK1 _ ?_
  refine Aa fun K2 hK2=>?_
  refine Aa fun K3 hK3=>?_
  refine Pe (e:=58) (by decide) (by decide) (by simp only [amT]) rfl ?_
  simp (disch:=omega) only [amL,↓reduceIte,reduceCtorEq]
  refine hK3 _ ?_
  refine Aj rfl (fun h=>?_) (fun h=>?_)
  ·first
   | exact Bool.noConfusion h
   |skip
    try simp only [] at h
    refine Aa fun K4 hK4=>?_
    refine Ac ?_
    simp (disch:=omega) only [amL,sA]
    refine hK4 _ ?_
    refine Ah ?_
    try simp (disch:=omega) only [Dw,amL,↓reduceIte]
    first | rfl | trace_state
  ·first
   | exact Bool.noConfusion h
   |skip
    try simp only [Bool.not_eq_true',decide_eq_true_eq,decide_eq_false_iff_not,Bool.and_eq_true,Bool.not_eq_false',Bool.not_not,decide_not,Bool.not_true,Bool.not_false] at h
    refine Ak ?_
    refine hK2 _ ?_
    refine Aa fun K5 hK5=>?_
    refine Ac ?_
    simp (disch:=omega) only [J0,Dw,amL,amT,sA,sB,sC,sD,sE,sF,sG,sH,sI,sJ,sK,sL,sM,sN,sO,↓reduceIte,reduceCtorEq]
    refine hK5 _ ?_
    refine Ah ?_
    try simp (disch:=omega) only [J0,Dw,amL,amT,sA,sB,sC,sD,sE,sF,sG,sH,sI,sJ,sK,sL,sM,sN,sO,↓reduceIte,reduceCtorEq]
    first | rfl | trace_state
end AM.Try
end
/- What closed runs go by: the types, the functions that share objects, slices.Clone, the map, equality. -/
section
namespace AM.Try
open Go AM AM.Wort Go.Proofs
set_option maxRecDepth 100000
def Ban:List (Option TI)→Nat→Option TI
 | [],_=>none
 | x :: _,0=>x
 | _ :: l,i+1=>Ban l i
def Bd7:List (Option TI):=[none,some ⟨.other,1,8,[.nilFunc]⟩,some ⟨.int .i64,1,8,[.int .i64 0]⟩,some ⟨.int .i64,1,8,[.int .i64 0]⟩,some ⟨.bool,1,1,[.bool false]⟩,some ⟨.int .u8,1,1,[.int .u8 0]⟩,some ⟨.int .u8,1,1,[.int .u8 0]⟩,some ⟨.struct [(0,2),(1,3),(2,4),(3,6)],4,24,[.int .i64 0,.int .i64 0,.bool false,.int .u8 0]⟩,some ⟨.struct [(0,2),(1,3),(2,4),(3,6)],4,24,[.int .i64 0,.int .i64 0,.bool false,.int .u8 0]⟩,none,none,none,some ⟨.int .u64,1,8,[.int .u64 0]⟩,none,none,some ⟨.other,1,8,[.pointer none]⟩,some ⟨.other,1,8,[.pointer none]⟩,some ⟨.other,1,8,[.pointer none]⟩,some ⟨.struct [(0,17)],1,8,[.pointer none]⟩,some ⟨.struct [(0,17)],1,8,[.pointer none]⟩,some ⟨.other,1,16,[.nilIface]⟩,some ⟨.int .i32,1,4,[.int .i32 0]⟩,some ⟨.sl 3,1,24,[.slice none 0 0]⟩,some ⟨.sl 22,1,24,[.slice none 0 0]⟩,some ⟨.struct [(0,22),(1,22),(2,23)],3,72,[.slice none 0 0,.slice none 0 0,.slice none 0 0]⟩,some ⟨.struct [(0,22),(1,22),(2,23)],3,72,[.slice none 0 0,.slice none 0 0,.slice none 0 0]⟩,some ⟨.sl 36,1,24,[.slice none 0 0]⟩,some ⟨.struct [(0,25),(3,3),(4,26)],5,104,[.slice none 0 0,.slice none 0 0,.slice none 0 0,.int .i64 0,.slice none 0 0]⟩,some ⟨.struct [(0,25),(3,3),(4,26)],5,104,[.slice none 0 0,.slice none 0 0,.slice none 0 0,.int .i64 0,.slice none 0 0]⟩,some ⟨.other,1,8,[.nilFunc]⟩,some ⟨.other,1,8,[.nilFunc]⟩,some ⟨.other,1,8,[.nilFunc]⟩,some ⟨.other,1,8,[.pointer none]⟩,some ⟨.struct [(0,3),(1,3)],2,16,[.int .i64 0,.int .i64 0]⟩,some ⟨.struct [(0,3),(1,3)],2,16,[.int .i64 0,.int .i64 0]⟩,some ⟨.struct [(0,3),(1,34),(3,34)],5,40,[.int .i64 0,.int .i64 0,.int .i64 0,.int .i64 0,.int .i64 0]⟩,some ⟨.struct [(0,3),(1,34),(3,34)],5,40,[.int .i64 0,.int .i64 0,.int .i64 0,.int .i64 0,.int .i64 0]⟩,some ⟨.sl 52,1,24,[.slice none 0 0]⟩,some ⟨.int .i64,1,8,[.int .i64 0]⟩,none,some ⟨.other,1,8,[.nilFunc]⟩,some ⟨.struct [(0,22),(1,22),(2,23)],3,72,[.slice none 0 0,.slice none 0 0,.slice none 0 0]⟩,some ⟨.sl 146,1,24,[.slice none 0 0]⟩,some ⟨.struct [(0,41),(3,3),(4,42)],5,104,[.slice none 0 0,.slice none 0 0,.slice none 0 0,.int .i64 0,.slice none 0 0]⟩,some ⟨.struct [(0,41),(3,3),(4,42)],5,104,[.slice none 0 0,.slice none 0 0,.slice none 0 0,.int .i64 0,.slice none 0 0]⟩,some ⟨.other,1,8,[.nilFunc]⟩,some ⟨.sl 56,1,24,[.slice none 0 0]⟩,some ⟨.sl 58,1,24,[.slice none 0 0]⟩,some ⟨.struct [(0,46),(1,47)],2,48,[.slice none 0 0,.slice none 0 0]⟩,some ⟨.struct [(0,46),(1,47)],2,48,[.slice none 0 0,.slice none 0 0]⟩,some ⟨.struct [(0,22),(1,22),(2,22)],3,72,[.slice none 0 0,.slice none 0 0,.slice none 0 0]⟩,some ⟨.struct [(0,22),(1,22),(2,22)],3,72,[.slice none 0 0,.slice none 0 0,.slice none 0 0]⟩,some ⟨.struct [(0,3),(1,3)],2,16,[.int .i64 0,.int .i64 0]⟩,some ⟨.struct [(0,3),(1,3)],2,16,[.int .i64 0,.int .i64 0]⟩,some ⟨.other,1,8,[.nilFunc]⟩,some ⟨.struct [(0,53),(2,53),(4,3)],5,40,[.int .i64 0,.int .i64 0,.int .i64 0,.int .i64 0,.int .i64 0]⟩,some ⟨.struct [(0,53),(2,53),(4,3)],5,40,[.int .i64 0,.int .i64 0,.int .i64 0,.int .i64 0,.int .i64 0]⟩,some ⟨.struct [(0,3),(1,3),(2,3),(3,53)],5,40,[.int .i64 0,.int .i64 0,.int .i64 0,.int .i64 0,.int .i64 0]⟩,some ⟨.struct [(0,3),(1,3),(2,3),(3,53)],5,40,[.int .i64 0,.int .i64 0,.int .i64 0,.int .i64 0,.int .i64 0]⟩,none,some ⟨.other,1,8,[.nilFunc]⟩,some ⟨.sl 65,1,24,[.slice none 0 0]⟩,none,some ⟨.other,1,8,[.nilFunc]⟩,some ⟨.struct [(0,3),(1,3),(2,3)],3,24,[.int .i64 0,.int .i64 0,.int .i64 0]⟩,some ⟨.struct [(0,3),(1,3),(2,3)],3,24,[.int .i64 0,.int .i64 0,.int .i64 0]⟩,some ⟨.other,1,8,[.nilFunc]⟩,none,some ⟨.other,1,8,[.nilFunc]⟩,some ⟨.other,1,8,[.nilFunc]⟩,some ⟨.struct [(0,3),(1,3)],2,16,[.int .i64 0,.int .i64 0]⟩,some ⟨.struct [(0,3),(1,3)],2,16,[.int .i64 0,.int .i64 0]⟩,some ⟨.sl 71,1,24,[.slice none 0 0]⟩,some ⟨.sl 78,1,24,[.slice none 0 0]⟩,some ⟨.struct [(0,3),(1,3),(2,3),(3,3),(4,72),(5,73)],6,80,[.int .i64 0,.int .i64 0,.int .i64 0,.int .i64 0,.slice none 0 0,.slice none 0 0]⟩,some ⟨.struct [(0,3),(1,3),(2,3),(3,3),(4,72),(5,73)],6,80,[.int .i64 0,.int .i64 0,.int .i64 0,.int .i64 0,.slice none 0 0,.slice none 0 0]⟩,some ⟨.struct [(0,3),(1,3)],2,16,[.int .i64 0,.int .i64 0]⟩,some ⟨.struct [(0,3),(1,3),(2,76),(4,3)],5,40,[.int .i64 0,.int .i64 0,.int .i64 0,.int .i64 0,.int .i64 0]⟩,some ⟨.struct [(0,3),(1,3),(2,76),(4,3)],5,40,[.int .i64 0,.int .i64 0,.int .i64 0,.int .i64 0,.int .i64 0]⟩,some ⟨.other,1,8,[.nilFunc]⟩,some ⟨.sl 90,1,24,[.slice none 0 0]⟩,none,some ⟨.other,1,8,[.nilFunc]⟩,some ⟨.sl 173,1,24,[.slice none 0 0]⟩,some ⟨.sl 175,1,24,[.slice none 0 0]⟩,some ⟨.struct [(0,3),(1,3),(2,3),(3,3),(4,83),(5,84)],6,80,[.int .i64 0,.int .i64 0,.int .i64 0,.int .i64 0,.slice none 0 0,.slice none 0 0]⟩,some ⟨.struct [(0,3),(1,3),(2,3),(3,3),(4,83),(5,84)],6,80,[.int .i64 0,.int .i64 0,.int .i64 0,.int .i64 0,.slice none 0 0,.slice none 0 0]⟩,some ⟨.other,1,8,[.nilFunc]⟩,none,some ⟨.other,1,8,[.nilFunc]⟩,some ⟨.struct [(0,3),(1,3)],2,16,[.int .i64 0,.int .i64 0]⟩,some ⟨.struct [(0,3),(1,3)],2,16,[.int .i64 0,.int .i64 0]⟩,some ⟨.sl 91,1,24,[.slice none 0 0]⟩,some ⟨.sl 53,1,24,[.slice none 0 0]⟩,some ⟨.other,1,8,[.nilFunc]⟩,some ⟨.other,1,8,[.nilFunc]⟩,some ⟨.other,1,8,[.nilFunc]⟩,some ⟨.other,1,8,[.nilFunc]⟩,some ⟨.other,1,8,[.nilFunc]⟩,some ⟨.other,1,8,[.nilFunc]⟩,some ⟨.other,1,8,[.nilFunc]⟩,some ⟨.other,1,8,[.nilFunc]⟩,some ⟨.other,1,8,[.nilFunc]⟩,some ⟨.other,1,8,[.nilFunc]⟩,none,some ⟨.other,1,8,[.nilFunc]⟩,some ⟨.other,1,8,[.nilFunc]⟩,some ⟨.other,1,8,[.nilFunc]⟩,some ⟨.other,1,8,[.nilFunc]⟩,some ⟨.other,1,8,[.nilFunc]⟩,some ⟨.other,1,8,[.nilFunc]⟩,some ⟨.struct [(0,3),(1,53),(3,53)],5,40,[.int .i64 0,.int .i64 0,.int .i64 0,.int .i64 0,.int .i64 0]⟩,some ⟨.struct [(0,3),(1,53),(3,53)],5,40,[.int .i64 0,.int .i64 0,.int .i64 0,.int .i64 0,.int .i64 0]⟩,some ⟨.sl 112,1,24,[.slice none 0 0]⟩,some ⟨.other,1,8,[.nilFunc]⟩,some ⟨.sl 139,1,24,[.slice none 0 0]⟩,none,some ⟨.other,1,8,[.nilFunc]⟩,some ⟨.other,1,8,[.nilFunc]⟩,some ⟨.other,1,8,[.nilFunc]⟩,some ⟨.sl 129,1,24,[.slice none 0 0]⟩,some ⟨.sl 132,1,24,[.slice none 0 0]⟩,some ⟨.struct [(0,120),(1,121)],2,48,[.slice none 0 0,.slice none 0 0]⟩,some ⟨.struct [(0,120),(1,121)],2,48,[.slice none 0 0,.slice none 0 0]⟩,some ⟨.struct [(0,3),(1,91),(3,91)],5,40,[.int .i64 0,.int .i64 0,.int .i64 0,.int .i64 0,.int .i64 0]⟩,some ⟨.struct [(0,3),(1,91),(3,91)],5,40,[.int .i64 0,.int .i64 0,.int .i64 0,.int .i64 0,.int .i64 0]⟩,some ⟨.other,1,8,[.nilFunc]⟩,some ⟨.other,1,8,[.pointer none]⟩,some ⟨.struct [(0,91),(2,91),(4,3)],5,40,[.int .i64 0,.int .i64 0,.int .i64 0,.int .i64 0,.int .i64 0]⟩,some ⟨.struct [(0,91),(2,91),(4,3)],5,40,[.int .i64 0,.int .i64 0,.int .i64 0,.int .i64 0,.int .i64 0]⟩,some ⟨.other,1,8,[.pointer none]⟩,some ⟨.struct [(0,3),(1,3),(2,3),(3,91)],5,40,[.int .i64 0,.int .i64 0,.int .i64 0,.int .i64 0,.int .i64 0]⟩,some ⟨.struct [(0,3),(1,3),(2,3),(3,91)],5,40,[.int .i64 0,.int .i64 0,.int .i64 0,.int .i64 0,.int .i64 0]⟩,some ⟨.other,1,8,[.nilFunc]⟩,some ⟨.other,1,8,[.nilFunc]⟩,some ⟨.other,1,8,[.nilFunc]⟩,some ⟨.sl 125,1,24,[.slice none 0 0]⟩,some ⟨.other,1,8,[.nilFunc]⟩,some ⟨.struct [(0,53),(2,53),(4,53)],6,48,[.int .i64 0,.int .i64 0,.int .i64 0,.int .i64 0,.int .i64 0,.int .i64 0]⟩,some ⟨.struct [(0,53),(2,53),(4,53)],6,48,[.int .i64 0,.int .i64 0,.int .i64 0,.int .i64 0,.int .i64 0,.int .i64 0]⟩,some ⟨.other,1,8,[.nilFunc]⟩,some ⟨.other,1,8,[.nilFunc]⟩,some ⟨.other,1,8,[.nilFunc]⟩,some ⟨.other,1,8,[.nilFunc]⟩,some ⟨.other,1,8,[.nilFunc]⟩,some ⟨.struct [(0,3),(1,52),(3,52)],5,40,[.int .i64 0,.int .i64 0,.int .i64 0,.int .i64 0,.int .i64 0]⟩,some ⟨.struct [(0,3),(1,52),(3,52)],5,40,[.int .i64 0,.int .i64 0,.int .i64 0,.int .i64 0,.int .i64 0]⟩,some ⟨.other,1,8,[.pointer none]⟩,none,some ⟨.other,1,8,[.nilFunc]⟩,some ⟨.arr 6 3,6,48,[.int .i64 0,.int .i64 0,.int .i64 0,.int .i64 0,.int .i64 0,.int .i64 0]⟩,some ⟨.arr 6 3,6,48,[.int .i64 0,.int .i64 0,.int .i64 0,.int .i64 0,.int .i64 0,.int .i64 0]⟩,some ⟨.struct [(0,44),(5,37),(6,151),(12,151)],18,224,[.slice none 0 0,.slice none 0 0,.slice none 0 0,.int .i64 0,.slice none 0 0,.slice none 0 0,.int .i64 0,.int .i64 0,.int .i64 0,.int .i64 0,.int .i64 0,.int .i64 0,.int .i64 0,.int .i64 0,.int .i64 0,.int .i64 0,.int .i64 0,.int .i64 0]⟩,some ⟨.struct [(0,44),(5,37),(6,151),(12,151)],18,224,[.slice none 0 0,.slice none 0 0,.slice none 0 0,.int .i64 0,.slice none 0 0,.slice none 0 0,.int .i64 0,.int .i64 0,.int .i64 0,.int .i64 0,.int .i64 0,.int .i64 0,.int .i64 0,.int .i64 0,.int .i64 0,.int .i64 0,.int .i64 0,.int .i64 0]⟩,some ⟨.other,1,8,[.nilFunc]⟩,some ⟨.other,1,8,[.nilFunc]⟩,some ⟨.other,1,8,[.nilFunc]⟩,some ⟨.other,1,8,[.nilFunc]⟩,some ⟨.struct [(0,22),(1,3)],2,32,[.slice none 0 0,.int .i64 0]⟩,some ⟨.struct [(0,22),(1,3)],2,32,[.slice none 0 0,.int .i64 0]⟩,some ⟨.other,1,8,[.nilFunc]⟩,some ⟨.other,1,8,[.nilFunc]⟩,some ⟨.other,1,8,[.nilFunc]⟩,some ⟨.struct [(0,3),(1,3)],2,16,[.int .i64 0,.int .i64 0]⟩,some ⟨.struct [(0,3),(1,3)],2,16,[.int .i64 0,.int .i64 0]⟩,some ⟨.arr 4 164,8,64,[.int .i64 0,.int .i64 0,.int .i64 0,.int .i64 0,.int .i64 0,.int .i64 0,.int .i64 0,.int .i64 0]⟩,some ⟨.arr 4 164,8,64,[.int .i64 0,.int .i64 0,.int .i64 0,.int .i64 0,.int .i64 0,.int .i64 0,.int .i64 0,.int .i64 0]⟩,none,some ⟨.other,1,8,[.pointer none]⟩,some ⟨.other,1,8,[.nilFunc]⟩,some ⟨.other,1,8,[.nilFunc]⟩,some ⟨.sl 164,1,24,[.slice none 0 0]⟩,some ⟨.other,1,8,[.nilFunc]⟩,some ⟨.struct [(0,3),(1,3)],2,16,[.int .i64 0,.int .i64 0]⟩,some ⟨.struct [(0,3),(1,3),(2,90),(4,3)],5,40,[.int .i64 0,.int .i64 0,.int .i64 0,.int .i64 0,.int .i64 0]⟩,some ⟨.struct [(0,3),(1,3),(2,90),(4,3)],5,40,[.int .i64 0,.int .i64 0,.int .i64 0,.int .i64 0,.int .i64 0]⟩,some ⟨.other,1,8,[.nilFunc]⟩,some ⟨.other,1,8,[.nilFunc]⟩,some ⟨.other,1,8,[.nilFunc]⟩,some ⟨.other,1,8,[.nilFunc]⟩,some ⟨.arr 12 3,12,96,[.int .i64 0,.int .i64 0,.int .i64 0,.int .i64 0,.int .i64 0,.int .i64 0,.int .i64 0,.int .i64 0,.int .i64 0,.int .i64 0,.int .i64 0,.int .i64 0]⟩,some ⟨.arr 12 3,12,96,[.int .i64 0,.int .i64 0,.int .i64 0,.int .i64 0,.int .i64 0,.int .i64 0,.int .i64 0,.int .i64 0,.int .i64 0,.int .i64 0,.int .i64 0,.int .i64 0]⟩,some ⟨.other,1,8,[.nilFunc]⟩,some ⟨.other,1,8,[.nilFunc]⟩,some ⟨.other,1,8,[.nilFunc]⟩,some ⟨.other,1,8,[.nilFunc]⟩,some ⟨.other,1,8,[.nilFunc]⟩,some ⟨.other,1,8,[.nilFunc]⟩,some ⟨.other,1,8,[.nilFunc]⟩,some ⟨.other,1,8,[.nilFunc]⟩,some ⟨.other,1,8,[.nilFunc]⟩,some ⟨.other,1,8,[.nilFunc]⟩,some ⟨.other,1,8,[.nilFunc]⟩,some ⟨.other,1,8,[.nilFunc]⟩,some ⟨.mp 3 4,1,8,[.map none]⟩,none,some ⟨.other,1,8,[.nilFunc]⟩,some ⟨.other,1,8,[.nilFunc]⟩,some ⟨.other,1,8,[.nilFunc]⟩,some ⟨.other,1,8,[.nilFunc]⟩,some ⟨.other,1,8,[.nilFunc]⟩,some ⟨.other,1,8,[.nilFunc]⟩,some ⟨.other,1,8,[.nilFunc]⟩,some ⟨.struct [(0,202)],1,8,[.nilFunc]⟩,some ⟨.struct [(0,202)],1,8,[.nilFunc]⟩,some ⟨.arr 3 204,3,24,[.nilFunc,.nilFunc,.nilFunc]⟩,some ⟨.other,1,8,[.nilFunc]⟩,some ⟨.other,1,8,[.pointer none]⟩,none,some ⟨.other,1,8,[.nilFunc]⟩,some ⟨.other,1,8,[.nilFunc]⟩,some ⟨.other,1,8,[.nilFunc]⟩,some ⟨.other,1,8,[.nilFunc]⟩,some ⟨.other,1,8,[.nilFunc]⟩,some ⟨.other,1,8,[.nilFunc]⟩,some ⟨.other,1,8,[.nilFunc]⟩,some ⟨.other,1,8,[.nilFunc]⟩,some ⟨.other,1,8,[.nilFunc]⟩,some ⟨.other,1,8,[.pointer none]⟩,some ⟨.other,1,8,[.nilFunc]⟩,some ⟨.other,1,8,[.nilFunc]⟩,some ⟨.other,1,8,[.nilFunc]⟩,some ⟨.other,1,8,[.nilFunc]⟩,some ⟨.other,1,8,[.nilFunc]⟩,some ⟨.struct [(0,22),(1,22),(2,22)],3,72,[.slice none 0 0,.slice none 0 0,.slice none 0 0]⟩,some ⟨.other,1,8,[.nilFunc]⟩,some ⟨.other,1,8,[.nilFunc]⟩,some ⟨.other,1,8,[.nilFunc]⟩,some ⟨.other,1,8,[.nilFunc]⟩,some ⟨.other,1,8,[.nilFunc]⟩,some ⟨.other,1,8,[.nilFunc]⟩,some ⟨.arr 2 3,2,16,[.int .i64 0,.int .i64 0]⟩,none,some ⟨.other,1,8,[.nilFunc]⟩,some ⟨.other,1,8,[.nilFunc]⟩,some ⟨.mp 256 258,1,8,[.map none]⟩,some ⟨.struct [(0,49),(2,235)],3,56,[.slice none 0 0,.slice none 0 0,.map none]⟩,some ⟨.struct [(0,49),(2,235)],3,56,[.slice none 0 0,.slice none 0 0,.map none]⟩,some ⟨.other,1,8,[.nilFunc]⟩,some ⟨.other,1,8,[.nilFunc]⟩,some ⟨.other,1,8,[.nilFunc]⟩,some ⟨.other,1,8,[.nilFunc]⟩,some ⟨.other,1,8,[.nilFunc]⟩,some ⟨.other,1,8,[.nilFunc]⟩,some ⟨.other,1,8,[.nilFunc]⟩,some ⟨.other,1,8,[.nilFunc]⟩,none,some ⟨.other,1,8,[.nilFunc]⟩,some ⟨.other,1,8,[.nilFunc]⟩,some ⟨.other,1,8,[.nilFunc]⟩,some ⟨.other,1,8,[.nilFunc]⟩,some ⟨.other,1,8,[.nilFunc]⟩,some ⟨.other,1,8,[.nilFunc]⟩,some ⟨.other,1,8,[.nilFunc]⟩,some ⟨.other,1,8,[.nilFunc]⟩,some ⟨.struct [(0,58),(5,3),(6,166)],14,112,[.int .i64 0,.int .i64 0,.int .i64 0,.int .i64 0,.int .i64 0,.int .i64 0,.int .i64 0,.int .i64 0,.int .i64 0,.int .i64 0,.int .i64 0,.int .i64 0,.int .i64 0,.int .i64 0]⟩,some ⟨.struct [(0,58),(5,3),(6,166)],14,112,[.int .i64 0,.int .i64 0,.int .i64 0,.int .i64 0,.int .i64 0,.int .i64 0,.int .i64 0,.int .i64 0,.int .i64 0,.int .i64 0,.int .i64 0,.int .i64 0,.int .i64 0,.int .i64 0]⟩,some ⟨.struct [(0,166),(8,4)],9,72,[.int .i64 0,.int .i64 0,.int .i64 0,.int .i64 0,.int .i64 0,.int .i64 0,.int .i64 0,.int .i64 0,.bool false]⟩,some ⟨.struct [(0,166),(8,4)],9,72,[.int .i64 0,.int .i64 0,.int .i64 0,.int .i64 0,.int .i64 0,.int .i64 0,.int .i64 0,.int .i64 0,.bool false]⟩,none,some ⟨.other,1,8,[.nilFunc]⟩,some ⟨.other,1,8,[.nilFunc]⟩,some ⟨.other,1,8,[.nilFunc]⟩,some ⟨.other,1,8,[.nilFunc]⟩,some ⟨.other,1,8,[.nilFunc]⟩,some ⟨.struct [(0,3),(1,3)],2,16,[.int .i64 0,.int .i64 0]⟩,none,some ⟨.other,1,8,[.nilFunc]⟩,some ⟨.other,1,8,[.nilFunc]⟩,some ⟨.other,1,8,[.nilFunc]⟩,some ⟨.other,1,8,[.nilFunc]⟩,some ⟨.other,1,8,[.nilFunc]⟩,some ⟨.other,1,8,[.nilFunc]⟩,some ⟨.struct [(0,272)],1,8,[.nilFunc]⟩,some ⟨.struct [(0,272)],1,8,[.nilFunc]⟩,some ⟨.arr 2 274,2,16,[.nilFunc,.nilFunc]⟩,some ⟨.other,1,8,[.nilFunc]⟩,some ⟨.other,1,8,[.nilFunc]⟩,some ⟨.other,1,8,[.nilFunc]⟩,some ⟨.other,1,8,[.pointer none]⟩,some ⟨.mp 289 3,1,8,[.map none]⟩,some ⟨.struct [(0,86),(6,3),(7,3),(8,280)],9,104,[.int .i64 0,.int .i64 0,.int .i64 0,.int .i64 0,.slice none 0 0,.slice none 0 0,.int .i64 0,.int .i64 0,.map none]⟩,some ⟨.struct [(0,86),(6,3),(7,3),(8,280)],9,104,[.int .i64 0,.int .i64 0,.int .i64 0,.int .i64 0,.slice none 0 0,.slice none 0 0,.int .i64 0,.int .i64 0,.map none]⟩,some ⟨.other,1,8,[.nilFunc]⟩,some ⟨.struct [(0,283)],1,8,[.nilFunc]⟩,some ⟨.struct [(0,283)],1,8,[.nilFunc]⟩,some ⟨.arr 4 285,4,32,[.nilFunc,.nilFunc,.nilFunc,.nilFunc]⟩,some ⟨.other,1,8,[.nilFunc]⟩,some ⟨.struct [(0,175),(5,3)],6,48,[.int .i64 0,.int .i64 0,.int .i64 0,.int .i64 0,.int .i64 0,.int .i64 0]⟩,some ⟨.struct [(0,175),(5,3)],6,48,[.int .i64 0,.int .i64 0,.int .i64 0,.int .i64 0,.int .i64 0,.int .i64 0]⟩,some ⟨.other,1,8,[.nilFunc]⟩,some ⟨.other,1,8,[.nilFunc]⟩,some ⟨.other,1,8,[.pointer none]⟩,some ⟨.other,1,8,[.nilFunc]⟩,some ⟨.other,1,8,[.nilFunc]⟩,some ⟨.other,1,8,[.nilFunc]⟩,some ⟨.other,1,8,[.nilFunc]⟩,some ⟨.other,1,8,[.nilFunc]⟩,some ⟨.other,1,8,[.nilFunc]⟩,some ⟨.other,1,8,[.nilFunc]⟩,some ⟨.other,1,8,[.nilFunc]⟩,some ⟨.other,1,8,[.nilFunc]⟩,some ⟨.other,1,8,[.nilFunc]⟩,some ⟨.other,1,8,[.nilFunc]⟩,some ⟨.other,1,8,[.nilFunc]⟩,some ⟨.other,1,8,[.nilFunc]⟩,some ⟨.other,1,8,[.nilFunc]⟩,some ⟨.other,1,8,[.nilFunc]⟩,some ⟨.other,1,8,[.nilFunc]⟩,some ⟨.other,1,8,[.nilFunc]⟩,some ⟨.other,1,8,[.nilFunc]⟩,some ⟨.other,1,8,[.nilFunc]⟩,some ⟨.struct [(0,3),(1,3),(2,3)],3,24,[.int .i64 0,.int .i64 0,.int .i64 0]⟩,some ⟨.sl 312,1,24,[.slice none 0 0]⟩,none,some ⟨.other,1,8,[.nilFunc]⟩,none,none,some ⟨.arr 0 16,0,0,[]⟩,some ⟨.struct [(0,318)],0,0,[]⟩,some ⟨.struct [(0,318)],0,0,[]⟩,some ⟨.int .u32,1,4,[.int .u32 0]⟩,some ⟨.int .u8,1,1,[.int .u8 0]⟩,some ⟨.int .u8,1,1,[.int .u8 0]⟩,some ⟨.other,1,8,[.nilFunc]⟩,some ⟨.other,1,8,[.pointer none]⟩,some ⟨.int .i32,1,4,[.int .i32 0]⟩,some ⟨.int .i32,1,4,[.int .i32 0]⟩,some ⟨.struct [(0,12),(1,12),(2,321),(3,322),(4,5),(5,5),(6,323),(7,324),(8,325),(9,326),(10,327)],11,48,[.int .u64 0,.int .u64 0,.int .u32 0,.int .u8 0,.int .u8 0,.int .u8 0,.int .u8 0,.nilFunc,.pointer none,.int .i32 0,.int .i32 0]⟩,some ⟨.struct [(0,12),(1,12),(2,321),(3,322),(4,5),(5,5),(6,323),(7,324),(8,325),(9,326),(10,327)],11,48,[.int .u64 0,.int .u64 0,.int .u32 0,.int .u8 0,.int .u8 0,.int .u8 0,.int .u8 0,.nilFunc,.pointer none,.int .i32 0,.int .i32 0]⟩,some ⟨.other,1,8,[.pointer none]⟩]
noncomputable def tyX (t:TypeId):TI:=match Ban Bd7 t with
 | some x=>x
 | none=>Ab Try.prog t
def Agt:Nat→List (Option TI)→Prop
 | _,[]=>True
 | i,none :: l=>Agt (i+1) l
 | i,some x :: l=>Ab Try.prog i=x∧Agt (i+1) l
theorem Ry:∀ {l:List (Option TI)} {i t:Nat} {x:TI},Agt i l→Ban l t=some x→Ab Try.prog (i+t)=x
 | [],_,_,_,_,h=>by cases h
 | none :: l,i,0,_,_,h=>by cases h
 | some y :: l,i,0,x,hk,h=>by cases h; exact hk.1
 | none :: l,i,t+1,x,hk,h=>by have:=Ry (i:=i+1) (t:=t) hk h; rwa [show i+(t+1)=i+1+t by omega]
 | some y :: l,i,t+1,x,hk,h=>by have:=Ry (i:=i+1) (t:=t) hk.2 h; rwa [show i+(t+1)=i+1+t by omega]
theorem Bap:Agt 0 Bd7:=⟨ty1,ty2,ty3,ty4,ty5,ty6,ty7,ty8,Bcz,Bdf,Bdj,Bel,Bc5,Bc0,Bgj,Bdm,Bc2,Bfh,Bdq,Bdw,Bed,Bdg,Bcx,Bdr,Bgc,Bds,Bfe,Bf3,Bf9,Be3,Bdv,Bfn,Bd9,Bek,Bdy,Bei,Bcg,Bcl,Bcy,Bdk,Bfk,Bc1,Bd2,Bf1,Bej,Be5,Bb8,Bdu,Bcp,Bfp,Bcr,Bdn,Bf6,Bda,Bdl,Bdc,Bcb,Bcd,Bff,Be7,Bco,Bfd,Bea,Bcm,Bf0,Bde,Bdi,Bd0,Bgd,Bfo,Bcf,Bfq,Bfi,Bck,Bey,Bcs,Bfw,Bgl,Bfj,Bd3,Bfx,Bdz,Bft,Bc9,Bfl,Be8,Bfu,Bfy,Avd,Aur,Atf,As5,Aw4,At8,Ayh,Awg,Awc,Ava,Atz,At1,Av1,Awf,Ay0,Av9,Atr,Awq,Auv,Awt,Asz,Aue,Atm,Axz,Atw,Auc,Au8,Aww,Azh,Av6,Ax0,Awo,Au9,Avx,Aw1,At3,Axb,Axq,Ay1,Atd,Axm,Axk,Awa,Auj,Auk,Ayf,Au0,Aut,As6,Axu,Azf,Auz,Avn,Avg,Au5,Avo,Azj,Atp,Av4,Awz,Ate,Azm,Awp,Ahu,Au7,Auo,Ato,Azg,Ayy,Ayp,Axf,Ayo,Axe,Avu,Avk,Axy,Aw6,Atn,Auf,Au4,Aug,Av0,Axa,Aws,Atu,Ayi,At7,Aw7,Ax5,Atk,Awk,Axr,Avz,Aus,Aze,Azl,Auh,Axn,Ax9,Avf,Ayb,Avp,At6,Ayr,Awh,Axl,Ayq,Ayj,Ath,Avq,Auu,Ayu,At0,As4,Ats,Aty,Aum,As8,Awd,Axs,Ayl,Au2,Atj,Aym,Avb,Aya,As2,Ay7,Avm,Atb,At4,Aw5,Ay8,Atq,Ax8,Aw2,Axo,Avw,Awi,Aye,Axt,Awu,Auy,Aui,Att,Ayx,Axp,Ata,Ave,Avy,Au6,Ays,Ax1,Ax6,Ayc,Awn,Auw,Axg,Au3,Ayw,Azp,Ay9,Atg,Azk,Ay6,Axh,Avt,Axd,Ayt,Azc,Awl,As1,Av5,Azo,Awe,Awx,Avj,Awv,Azd,As3,Aua,Azb,As0,Aza,Atc,At9,Ayz,Aux,Aun,Aup,Aw9,Ax3,Axw,Av2,Awb,Aub,Ati,Axv,Avv,Ay5,At2,As7,Ax2,Ax7,Avh,Axx,Aw0,Awr,Atx,Avs,Ay4,Avi,Avl,Ayd,Av7,Avc,Aul,Aw8,trivial⟩
theorem Bbs (t:TypeId):tyX t=Ab Try.prog t:=by
 unfold tyX
 split
 ·rename_i x h; have:=Ry Bap h; rw [Nat.zero_add] at this; exact this.symm
 ·rfl
def knX (f:Nat) (xs:List AV):Option (Nat × List (List PV)):=match eqN f 179 with
 | true=>go 1 xs
 | false=>match eqN f 90 with
  | true=>go 5 xs
  | false=>none
 where go (k:Nat):List AV→Option (Nat × List (List PV))
 | [.p (.sl es)]=>match (es.all fun c=>eqN c.length k)&&((es.all fun e=>e.all PV.isVal)&&ltN es.length 1000000) with
  | true=>some (k,es)
  | false=>none
 | [.p (.val (.slice none 0 0))]=>some (k,[])
 | _=>none
theorem Baf (f:Nat) (xs:List AV) (k:Nat) (es:List (List PV)) (h:knX f xs=some (k,es)):Jh Try.prog f xs k es:=by
 have key:∀ (k0:Nat),knX.go k0 xs=some (k,es)→k=k0∧((xs=[.p (.sl es)]∧(es.all fun c=>decide (c.length=k0))=true∧(es.all fun e=>e.all PV.isVal)=true∧es.length < 1000000)∨(xs=[C3]∧es=[])):=by
  intro k0 h
  unfold knX.go at h
  split at h
  ·split at h
   ·rename_i hc
    cases h
    simp only [Bool.and_eq_true,F3] at hc
    refine ⟨rfl,.inl ⟨rfl,?_,hc.2.1,hc.2.2⟩⟩
    rw [List.all_eq_true] at *
    exact fun c hm=>decide_eq_true (Bp.1 (hc.1 c hm))
   ·cases h
  ·cases h; exact ⟨rfl,.inr ⟨rfl,rfl⟩⟩
  ·cases h
 unfold knX at h
 split at h
 ·rename_i hf; rw [Bp] at hf; subst hf
  obtain ⟨rfl,⟨rfl,h1,h2,h3⟩ | ⟨rfl,rfl⟩⟩:=key 1 h
  ·exact Am3 es h1 h2 h3
  ·exact Aki
 ·split at h
  ·rename_i hf; rw [Bp] at hf; subst hf
   obtain ⟨rfl,⟨rfl,h1,h2,h3⟩ | ⟨rfl,rfl⟩⟩:=key 5 h
   ·exact Acu es h1 h2 h3
   ·exact Aj9
  ·cases h
def mzX:Value:=Anl
def mtX (t:Nat):Option (Nat × Value):=match eqN t 235 with
 | true=>some (14,mzX)
 | false=>none
def qeX (t n:Nat):Bool:=eqN t 166&&eqN n 8
theorem Az9:Mk Try.prog 166 8:=R2 (by kernel_rfl)
def cfX (N id:Nat):Option (Option Nat × List Cf):=match eqN N 69&&eqN id 706 with
 | true=>some (none,[.sto [11] 8,.sto [67] 8])
 | false=>match eqN N 54&&eqN id 711 with
 | true=>some (some 9,[.app [4]])
 | false=>match eqN N 52&&eqN id 714 with
 | true=>some (none,[])
 | false=>match eqN N 54&&eqN id 208 with
 | true=>some (some 8,[])
 | false=>match eqN N 54&&eqN id 715 with
 | true=>some (some 9,[.app [6],.app [13,41]])
 | false=>none
def lvX (_ _:Nat):Option (List Nat):=none
noncomputable def rpX:RP:=⟨tyX,[61,62,80,84,87,88,93,94,99,101,103,116,129,132,134,140,143,147,149,159,166,174,175,176,181,182,187,193,197,199,209,211,215,218],[87],[178],knX,mtX,qeX,cfX,lvX⟩
theorem Ru:Pz Try.prog rpX where
 ty:=Bbs
 mix:=rfl
 kn:=Baf
 mt t n z h:=by
  have h:mtX t=some (n,z):=h
  unfold mtX at h
  split at h
  ·rename_i he; rw [Bp] at he; subst he; cases h
   exact ⟨256,258,by simp only [amT],Ayn,rfl,Az2⟩
  ·cases h
 qe t n h:=by
  have h:qeX t n=true:=h
  unfold qeX at h
  rw [Bool.and_eq_true,Bp,Bp] at h
  obtain ⟨rfl,rfl⟩:=h
  exact Az9
end AM.Try
end
