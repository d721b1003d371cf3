/- Part of SolidPlaces. -/
import Derived.Shelf.SlSortCmp.WholeK
import Derived.Shelf.Slices.SearchI
import Derived.Shelf.Spec.SlicesGrow
import Derived.Shelf.Strconv.AtoiAll
import Derived.Shelf.Strconv.Itoa3
import Derived.Shelf.Strings.BuilderCap
import Derived.Shelf.Strings.Repeat
import Derived.Shelf.Strings.Shaped
import Derived.Test.YtmjkpiakobnkgaaGreatDoorProg
set_option maxRecDepth 100000
set_option maxHeartbeats 20000000
set_option linter.all false
open Go.Proofs Go.Proofs.Tryz
namespace Go.Proofs.Tryz
def asu{α:Type}{o:Option α}{x y:α}(h:o=some x)(e:x=y):o=some y:=h.trans (congrArg some e)
def kkS{α:Sort _}{a b:α}(h:a=b:=by kernel_rfl):a=b:=h
section
open Go.Shelf
def bzZ{P:Go.Program}{f:Nat}{B:Go.Func}(h:((P.funcs[f]?.map (·.name)).getD "" == "runtime.NumGoroutine")=false:=by kernel_rfl)(k:P.funcs[f]? =some {B with name:=(P.funcs[f]?.map (·.name)).getD "" }:=by kernel_rfl):Bears P f B:=⟨_,h,k⟩
end
def lzZ{p:Prop}(h:p:=by first|(constructor<;>first|exact kkS|exact λ_=>kkS|exact bzZ)|(constructor;constructor;all_goals first|exact kkS|exact λ_=>kkS)):p:=h
section
open Go.Shelf
def lC:Go.Shelf.Ren:=⟨fun|169=>267|n=>n,fun|70=>317|9=>9|0=>0|72=>320|37=>318|127=>352|3=>3|5=>5|n=>n,fun|n=>n⟩
def amD:Go.Proofs.Lays.n169 prog lC:=lzZ
def acQ:Builder.Extra prog lC:={sizeBuilder:=kkS,liesBuilder:=kkS,t5:=underlying5,a5:=isAgg5,z5:=sizeOf5,v5:=zeroValue5,infoByte:=kkS,cellsByte:=kkS,sizeByte:=kkS,neB5:=by decide}
def afc:Go.Shelf.Ren:=⟨fun|134=>301|129=>248|n=>n,fun|53=>272|3=>3|4=>4|46=>240|5=>5|9=>9|n=>n,fun|n=>n⟩
def amG:Go.Proofs.Lays.n134 prog afc:=lzZ
def bits_LeadingZeros64(x:Int)(w:World)(a:0<=x)(b:x<=18446744073709551615):Calls prog 301 #[.int .u64 x] w λe w'=>e= .returned (.int .i64<|64-(Lib.bitLen x.toNat:Int))/\w'=w:=Any.bits_LeadingZeros64 amG x w a b
def afa:Go.Shelf.Ren:=⟨fun|172=>253|244=>295|245=>296|247=>323|279=>324|280=>325|281=>326|282=>327|287=>349|316=>350|171=>262|205=>351|321=>361|322=>362|243=>299|246=>336|283=>337|284=>338|285=>339|286=>340|129=>248|317=>355|318=>356|319=>357|320=>358|337=>364|338=>365|n=>n,fun|9=>9|3=>3|75=>303|76=>304|4=>4|5=>5|167=>364|37=>318|0=>0|85=>365|2=>2|168=>367|53=>272|175=>387|46=>240|210=>391|127=>352|145=>403|143=>401|21=>21|171=>376|173=>378|212=>396|51=>297|20=>20|213=>397|232=>405|233=>406|80=>252|n=>n,fun|15=>3|16=>4|17=>5|18=>6|19=>7|n=>n⟩
def amC:Go.Proofs.Lays.n172 prog afa:=lzZ
open Go.RowKit in
def strconv_Atoi(s:ByteArray)(n:Int)(a:s.size<=18)(h:Lib.atoi s.data.toList=some n)(w:World):Calls prog 253 #[.string s] w λe w'=>e= .returned (.tuple #[.int .i64 n,.nilIface])/\∃t,w'=Lib.bytesWorld w 5 t:=Any.strconv_Atoi amC s n a h w
def aff:Go.Shelf.Ren:=⟨fun|129=>248|n=>n,fun|53=>272|3=>3|4=>4|46=>240|5=>5|9=>9|n=>n,fun|n=>n⟩
def amH:Go.Proofs.Lays.n129 prog aff:=lzZ
def bits_Len64(x:Int)(w:World)(a:0<=x)(b:x<=18446744073709551615):Calls prog 248 #[.int .u64 x] w λe w'=>e= .returned (.int .i64<|Lib.bitLen x.toNat)/\w'=w:=Any.bits_Len64 amH x w a b
def afW:Go.Shelf.Ren:=⟨fun|283=>337|n=>n,fun|3=>3|9=>9|4=>4|n=>n,fun|n=>n⟩
def am9:Go.Proofs.Lays.n283 prog afW:=lzZ
open Go.Lib in
def internal_strconv_small(i:Nat)(h:i<100)(w:World):Calls prog 337 #[.int .i64 i] w λe w'=>e= .returned (.string ⟨(Lib.decDigits i).toArray⟩)/\w'=w:=Any.internal_strconv_small am9 i h w
def afV:Go.Shelf.Ren:=⟨fun|285=>339|n=>n,fun|37=>318|53=>272|3=>3|4=>4|51=>297|9=>9|5=>5|0=>0|n=>n,fun|n=>n⟩
def am8:Go.Proofs.Lays.n285 prog afV:=lzZ
open Go.RowKit Go.Sort Go.Lib in
def internal_strconv_formatBase10(blk off cap:Nat)(u:Nat)(d:Array UInt8)(w:World)(f:Holds (λ(b:UInt8)=>Value.int .u8 (b.toNat:Int)) w blk off d)(g:u<10^d.size)(a:u<18446744073709551616)(c:d.size<4611686018427387904):Calls prog 339 #[.slice (some ⟨blk,off,none⟩) d.size cap,.int .u64 u] w λe w'=>e= .returned (.tuple #[])/\∃(n h:Nat) (dk:Array UInt8),w'=(putRow (λ(b:UInt8)=>Value.int .u8 (b.toNat:Int)) w blk off dk).drewN n/\FmtInv d.size u 0 h dk:=Any.internal_strconv_formatBase10 am8 blk off cap u d w f g a c
def aeg:Go.Shelf.Ren:=⟨fun|246=>336|283=>337|284=>338|285=>339|286=>340|129=>248|317=>355|318=>356|319=>357|320=>358|337=>364|338=>365|n=>n,fun|2=>2|3=>3|9=>9|4=>4|171=>376|0=>0|53=>272|37=>318|5=>5|173=>378|212=>396|51=>297|20=>20|213=>397|46=>240|232=>405|233=>406|n=>n,fun|17=>5|18=>6|19=>7|n=>n⟩
def y7:Go.Proofs.LaysM.n246 prog aeg:=lzZ
def aeh:Go.Shelf.Ren:=⟨fun|171=>262|243=>299|246=>336|283=>337|284=>338|285=>339|286=>340|129=>248|317=>355|318=>356|319=>357|320=>358|337=>364|338=>365|n=>n,fun|3=>3|9=>9|2=>2|4=>4|171=>376|0=>0|53=>272|37=>318|5=>5|173=>378|212=>396|51=>297|20=>20|213=>397|46=>240|232=>405|233=>406|n=>n,fun|17=>5|18=>6|19=>7|n=>n⟩
def ajt:Go.Proofs.LaysM.n171 prog aeh:=lzZ
open Go.RowKit Go.Sort Go.Lib in
def strconv_Itoa(n:Int)(b: -9223372036854775808<=n)(c:n<=9223372036854775807)(w:World)(a:Lib.TabIs prog w "internal/strconv.uint64pow10" .u64 Lib.pow10Tab):Calls prog 262 #[.int .i64 n] w λe w'=>e= .returned (.string ⟨(Lib.itoa n).toArray⟩)/\∃k os,w'=grow (w.drewN k) os:=Any.strconv_Itoa ajt n b c w a
def afb:Go.Shelf.Ren:=⟨fun|145=>185|220=>250|219=>292|217=>319|225=>320|224=>321|267=>322|266=>347|314=>348|n=>n,fun|9=>9|4=>4|59=>241|3=>3|5=>5|46=>240|146=>380|51=>297|n=>n,fun|1=>0|n=>n⟩
def amF:Go.Proofs.Lays.n145 prog afb:=lzZ
open Go.RowKit Go.Lib in
def strings_Cut(s sep:ByteArray)(m:Int)(w:World)(a:s.size<4294967281)(b:w.cell? ⟨0,0,none⟩=some (.int .i64 m)):Calls prog 185 #[.string s,.string sep] w λe w'=>e= .returned (.tuple #[.string ⟨(Lib.cut s.data.toList sep.data.toList).1.toArray⟩,.string ⟨(Lib.cut s.data.toList sep.data.toList).2.1.toArray⟩,.bool (Lib.cut s.data.toList sep.data.toList).2.2])/\∃n,w'=w.drewN n:=Any.strings_Cut amF s sep m w a b
def agR:Go.Shelf.Ren:=⟨fun|99=>251|206=>293|n=>n,fun|9=>9|4=>4|3=>3|n=>n,fun|n=>n⟩
def aoC:Go.Proofs.Lays.n99 prog agR:=lzZ
open Go.RowKit Go.Lib in
def strings_HasPrefix(s p:ByteArray)(w:World):Calls prog 251 #[.string s,.string p] w λe w'=>e= .returned (.bool<|Lib.hasPrefix s.data.toList p.data.toList)/\w'=w:=Any.strings_HasPrefix aoC s p w
def afX:Go.Shelf.Ren:=⟨fun|264=>225|n=>n,fun|53=>272|46=>240|n=>n,fun|n=>n⟩
def amA:Go.Proofs.Lays.n264 prog afX:=lzZ
open Go.RowKit Go.Lib in
def bits_Mul64(x y:Nat)(a:x<18446744073709551616)(b:y<18446744073709551616)(w:World):Calls prog 225 #[.int .u64 x,.int .u64 y] w λe w'=>e= .returned (.tuple #[.int .u64 ((x*y/18446744073709551616:Nat):Int),.int .u64 ((x*y%18446744073709551616:Nat):Int)])/\w'=w:=Any.bits_Mul64 amA x y a b w
def afY:Go.Shelf.Ren:=⟨fun|212=>305|263=>341|264=>225|n=>n,fun|46=>240|51=>297|146=>380|53=>272|148=>273|n=>n,fun|n=>n⟩
def amB:Go.Proofs.Lays.n212 prog afY:=lzZ
open Go.RowKit Go.Lib in
def bits_Mul(x y:Nat)(a:x<18446744073709551616)(b:y<18446744073709551616)(w:World):Calls prog 305 #[.int .u64 x,.int .u64 y] w λe w'=>e= .returned (.tuple #[.int .u64 ((x*y/18446744073709551616:Nat):Int),.int .u64 ((x*y%18446744073709551616:Nat):Int)])/\w'=w:=Any.bits_Mul amB x y a b w
def afh:Go.Shelf.Ren:=⟨fun|105=>265|212=>305|99=>251|165=>306|166=>266|170=>307|169=>267|263=>341|264=>225|206=>293|240=>308|241=>342|276=>343|277=>359|n=>n,fun|9=>9|3=>3|4=>4|20=>20|0=>0|46=>240|109=>349|5=>5|72=>320|76=>304|51=>297|146=>380|53=>272|148=>273|70=>317|37=>318|75=>303|127=>352|164=>382|80=>252|n=>n,fun|n=>n⟩
def za:Go.Proofs.Lays.n105 prog afh:=lzZ
open Go.RowKit Go.Lib in
def strings_Repeat_zero(s:ByteArray)(w:World):Calls prog 265 #[.string s,.int .i64 0] w λe w'=>e= .returned (.string ⟨#[]⟩)/\w'=w:=Any.strings_Repeat_zero za s w
open Go.RowKit Go.Lib in
def strings_Repeat_one(s:ByteArray)(w:World):Calls prog 265 #[.string s,.int .i64 1] w λe w'=>e= .returned (.string s)/\w'=w:=Any.strings_Repeat_one za s w
def uS:Go.Shelf.Ren:=⟨fun|6=>102|15=>183|14=>182|28=>247|29=>248|20=>239|21=>240|22=>241|23=>242|24=>243|25=>244|26=>245|27=>246|46=>287|47=>288|48=>289|49=>290|50=>291|57=>318|n=>n,fun|22=>65|24=>76|25=>169|3=>3|39=>240|0=>0|53=>297|55=>272|4=>4|46=>291|45=>290|50=>207|5=>5|9=>9|66=>337|70=>341|76=>359|77=>360|n=>n,fun|n=>n⟩
def yx:Go.Proofs.SlLaysF0.n6 prog uS:=lzZ
def kg:Go.Shelf.Ren:=⟨fun|6=>218|15=>183|14=>278|28=>247|29=>248|20=>309|21=>310|22=>311|23=>312|24=>313|25=>314|26=>315|27=>316|46=>344|47=>288|48=>289|49=>345|50=>346|57=>360|n=>n,fun|22=>129|24=>86|25=>266|3=>3|39=>240|0=>0|53=>297|55=>272|4=>4|46=>291|45=>290|50=>207|5=>5|9=>9|66=>337|70=>341|76=>359|77=>360|n=>n,fun|n=>n⟩
def cg:Go.Proofs.SlLaysF0.n6 prog kg:=lzZ
def uR:Go.Shelf.Ren:=⟨fun|6=>259|15=>183|14=>298|28=>247|29=>248|20=>328|21=>329|22=>330|23=>331|24=>332|25=>333|26=>334|27=>335|46=>352|47=>288|48=>289|49=>353|50=>354|57=>363|n=>n,fun|22=>58|24=>42|25=>310|3=>3|39=>240|0=>0|53=>297|55=>272|4=>4|46=>291|45=>290|50=>207|5=>5|9=>9|66=>337|70=>341|76=>359|77=>360|n=>n,fun|n=>n⟩
def yw:Go.Proofs.SlLaysF0.n6 prog uR:=lzZ
def uf:Go.Shelf.Ren:=⟨fun|4=>187|n=>n,fun|22=>77|25=>112|3=>3|4=>4|9=>9|20=>20|0=>0|n=>n,fun|n=>n⟩
def amW:Go.Proofs.Lays8.n4 prog uf:=lzZ
end
end Go.Proofs.Tryz
