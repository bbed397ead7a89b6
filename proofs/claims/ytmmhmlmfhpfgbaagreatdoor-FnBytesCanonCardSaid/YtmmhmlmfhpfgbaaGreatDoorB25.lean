/- Texts joined. Conditions: as each theorem names them. -/
import Derived.Test.YtmmhmlmfhpfgbaaGreatDoorB24
import Derived.Test.YtmmhmlmfhpfgbaaGreatDoorB26
set_option maxRecDepth 100000
set_option maxHeartbeats 32000000
set_option linter.unusedVariables false
set_option linter.unusedSimpArgs false
namespace Go.Proofs.YtmmhmlmfhpfgbaaGreatDoor
open Go.RowKit Go.Proofs.Tryz
section
attribute [local go_sem] Qra Qpu Qo3 Qmi ByteArray.mk_append_mk
def rdV(v u:Ver):Bool:=Yg (Bq v.1 v.2) (Bq u.1 u.2)
def Ql5(vs:List Ver)(i:Nat):Ver:=vs.getD i ([],[])
def Qpx(vs:List Ver):Bool:=decide (vs.length<=5) && (List.range vs.length).all fun i=>(List.range (i+1)).all fun k=>rdV (Ql5 vs i) (Ql5 vs k)
def atL(vs:List Ver)(n:Int):Option Ver:=if Qpx vs=true/\1<=n/\n<=(vs.length:Int)then some (Ql5 vs (n - 1).toNat)else none
def Qdd(vs:List Ver)(n:Int)(w:World)(e:Ending)(w':World):Prop:=∃a b:ByteArray,e=.returned (.tuple #[.agg #[.string a,.string b],.bool (atL vs n).isSome])/\(∀v,atL vs n=some v->a=⟨v.1.toArray⟩/\b=⟨v.2.toArray⟩)/\Below w w w'
theorem Qdd.no{vs:List Ver}{n:Int}{w w':World}{e:Ending}(h:atL vs n=none){a b:ByteArray}(he:e=.returned (.tuple #[.agg #[.string a,.string b],.bool false]))(hb:Below w w w'):Qdd vs n w e w':=
 ⟨a,b,by rw[h];exact he,fun v hv=>(by rw[h]at hv;cases hv),hb⟩
theorem Qdd.yes{vs:List Ver}{n:Int}{w w':World}{e:Ending}{v:Ver}(h:atL vs n=some v)(he:e=.returned (.tuple #[.agg #[v.1,v.2],.bool true]))(hb:Below w w w'):Qdd vs n w e w':=
 ⟨_,_,by rw[h];exact he,fun v' hv=>(by rw[h]at hv;injection hv with hv;subst hv;exact⟨rfl,rfl⟩),hb⟩
def Vs(o:Option (List UInt8))(w:World)(e:Ending)(w':World):Prop:=e=.returned (.tuple #[.string ⟨(o.getD []).toArray⟩,.bool o.isSome])/\Below w w w'
end
end Go.Proofs.YtmmhmlmfhpfgbaaGreatDoor
