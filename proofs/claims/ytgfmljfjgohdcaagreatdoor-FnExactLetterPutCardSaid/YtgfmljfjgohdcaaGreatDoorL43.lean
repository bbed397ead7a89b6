/- Texts joined. Conditions: as each theorem names them. -/
import Derived.Test.YtgfmljfjgohdcaaGreatDoorL42
set_option maxRecDepth 100000
set_option maxHeartbeats 32000000
set_option linter.unusedVariables false
set_option linter.unusedSimpArgs false
namespace Go.Proofs.YtgfmljfjgohdcaaGreatDoor
open Go.RowKit Go.Proofs.Tryz
def atL(vs:List J0)(n:Int):Option J0:=if Ms vs=true/\1<=n/\n<=(vs.length:Int)then some (Dq vs (n - 1).toNat)else none
theorem Qdz{vs:List J0}{n:Int}(h:Ms vs=false):atL vs n=none:=if_neg (by rw[h];simp)
theorem Qei{vs:List J0}{n:Int}(h:¬(1<=n/\n<=(vs.length:Int))):atL vs n=none:=if_neg fun g=>h g.2
theorem Qg5{vs:List J0}{k:Nat}(hr:Ms vs=true)(hk:k<vs.length):atL vs ((k:Int)+1)=some (Dq vs k):=by
 unfold atL;rw[if_pos ⟨hr,by omega,by omega⟩];congr 2
 omega
theorem Qhr{vs:List J0}{n:Int}{v:J0}(h:atL vs n=some v):Ms vs=true/\∃k:Nat,n=(k:Int)+1/\k<vs.length/\v=Dq vs k:=by
 unfold atL at h;split at h
 ·rename_i hc;injection h with h;exact⟨hc.1,(n - 1).toNat,by omega,by omega,h.symm⟩
 cases h
def G6(vs:List J0)(n:Int)(w:World)(e:Ending)(w':World):Prop:=∃a b:ByteArray,e=.returned (.tuple #[.agg #[.string a,.string b],.bool (atL vs n).isSome])/\(∀v,atL vs n=some v->a=⟨v.1.toArray⟩/\b=⟨v.2.toArray⟩)/\Below w w w'
theorem G6.no{vs:List J0}{n:Int}{w w':World}{e:Ending}(h:atL vs n=none){a b:ByteArray}(he:e=.returned (.tuple #[.agg #[.string a,.string b],.bool false]))(hb:Below w w w'):G6 vs n w e w':=
 ⟨a,b,by rw[h];exact he,fun v hv=>(by rw[h]at hv;cases hv),hb⟩
theorem G6.yes{vs:List J0}{n:Int}{w w':World}{e:Ending}{v:J0}(h:atL vs n=some v)(he:e=.returned (.tuple #[.agg #[v.1,v.2],.bool true]))(hb:Below w w w'):G6 vs n w e w':=
 ⟨_,_,by rw[h];exact he,fun v' hv=>(by rw[h]at hv;injection hv with hv;subst hv;exact⟨rfl,rfl⟩),hb⟩
def Qn(o:Option (List UInt8))(w:World)(e:Ending)(w':World):Prop:=e=.returned (.tuple #[.string ⟨(o.getD []).toArray⟩,.bool o.isSome])/\Below w w w'
end Go.Proofs.YtgfmljfjgohdcaaGreatDoor
