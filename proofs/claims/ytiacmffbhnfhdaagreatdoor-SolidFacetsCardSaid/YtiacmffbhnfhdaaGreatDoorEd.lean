/-
  Part of the proof of SolidFacets.
-/
import Derived.Test.YtiacmffbhnfhdaaGreatDoorEc
set_option maxRecDepth 100000
set_option maxHeartbeats 20000000
set_option linter.all false
open Go Go.RowKit Go.Proofs
namespace Trn
section
variable{α:Type}[DecidableEq α]{c:α×α->Option Int}
def YG{l s:A3 α}(h:Hn l c=some s):s.Perm l/\Oc c s=true/\(∀x∈l,∀y∈l,∃v,c (x,y)=some v)/\l.length<4611686018427387904:=by
 obtain⟨s',hs,h⟩:=NW h;unfold EV at h;cases hb:Nat.blt l.length 4611686018427387904&&(totB c l&&Oc c s') with
 |false=>rw[hb] at h;cases h
 |true=>
  rw[hb] at h;cases h;rw[Bx,Bx] at hb;refine⟨vj hs,hb.2.2,λx hx y hy=>?_,F1 hb.1⟩;have:=DZ.1 hb.2.1 x hx;have:=DZ.1 this y hy;exact Option.isSome_iff_exists.1 this
end
def O{α:Sort _}{a:α}:a=a:=rfl
def AM{α:Type}{f:α->Ty}{sz:Nat}(h:(λz=>(f z).n)=λ_=>sz):∀z,(f z).n=sz:=congrFun h
abbrev TiZ(n:Int):Ty:=TI .i64 n
abbrev AB:=List UInt8
abbrev BU:=AB×AB×AB
abbrev HfZ:=(Int×Int×Int)×List UInt8
abbrev PlZ:=(Rat×Rat×Rat)×Rat
abbrev FcZ:=((Rat×Rat×Rat)×Rat)×List (Rat×Rat×Rat)
abbrev BdZ:=List ((Int×Int×Int)×List UInt8)
abbrev SpZ:=List (((Rat×Rat×Rat)×Rat)×List (Rat×Rat×Rat))
abbrev ShZ:=List ((Int×Int×Int)×List UInt8)×List (List UInt8×List UInt8×List UInt8)×List (List Int)
end Trn
