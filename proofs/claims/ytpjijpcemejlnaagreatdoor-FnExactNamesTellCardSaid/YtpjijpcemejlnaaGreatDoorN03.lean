/- Texts joined. Conditions: as each theorem names them. -/
import Derived.Maps.OwnSet
import Derived.Maps.OwnOps
import Derived.StringKeys
import Derived.Shelf.Strings.SlTrimAscii
import Derived.Shelf.Strings.Prefix
import Derived.Shelf.Strings.Search3
import Derived.Shelf.Strings.Count
import Derived.Shelf.Strings.OnBuilder
import Derived.Test.YtpjijpcemejlnaaGreatDoorProg
import Derived.Lib.IndexLaws
import Derived.Deep.RegionWith
import Derived.Deep.MidRow
import Derived.Deep.AppendLies
import Derived.Test.YtpjijpcemejlnaaGreatDoorN02
set_option maxRecDepth 100000
set_option maxHeartbeats 32000000
set_option linter.unusedVariables false
set_option linter.unusedSimpArgs false
namespace Go.Proofs.YtpjijpcemejlnaaGreatDoor
open Go.RowKit Go.Proofs.Tryz
theorem Bl.ownK{w:World}{base k:Nat}{e:TypeId}{v:Value}{n:Nat}{xs:List Value}(h:w.ownsRow base e k v n xs)(hle:n*k<=maxLen):∃A c,v=.slice A n c/\Bl w A (n*k) xs:=by
 have h1:=h.1;rcases h.2 with⟨rfl,rfl⟩|⟨g,cap,cur,rfl,hb,hh,hnc,hcm,hcs,htk⟩
 ·exact⟨none,0,rfl,by omega,by omega,fun h=>absurd h aG⟩
 refine⟨some ⟨g,0,none⟩,cap,rfl,by omega,hle,fun hn=>⟨g,0,rfl,(h.lt g rfl).2,fun j u hu=>?_⟩⟩;have:=h.cells (g:=g) rfl j u hu;have e1:(⟨g,0,none⟩:Addr).add j=⟨g,0+j,none⟩:=bp;rwa [e1]at this
section
variable {P:Program}
theorem Zh(w:World){ops:Array Oper}{rest:List Oper}{o:Oper}{a:Act}{Q:Exit->Act->World->Prop}(hgd:o.guard=none)(s x:Operand)(t:TypeId)
  (ho:o.op=.call {callee:=.builtin .append,args:=#[s,x],argTypes:=#[t,t]})
  (base:Nat) (e:TypeId) (z:Value) (k bytes:Nat) (ht:P.underlying t=some (.slice e)) (hinfo:(P.info? e).map (fun i=>(i.zero,i.size,i.bytes))=some (some z,k,bytes))
  (hzs:z.cells.size=k) (hk:0<k) (W:World) (us:List Value) (hul:us.length=k) (hw:w=W.alloc (.cells us.toArray e)) (hu:∀u∈us,u.oneCell'=true) (v:Value) (n:Nat) (xs:List Value) (hs:a.eval s=v) (hx:a.eval x=.slice (W,0) 1 1)
  (hown:W.ownsRow base e k v n xs)
  (h63:n+1<=maxLen) (hbytes:(n+1)*bytes<=140737488355328) (hbase:base<=W.heap.size)
  (h:∀v' w',w'.ownsRow base e k v' (n+1) (xs++us)->Below base W w'->wpList P ops Q rest (a.put o.dst v') w'):wpList P ops Q (o::rest) a w:=by
 subst hw;obtain⟨i0,hi,hz0,hz1,hz2⟩:=info_parts hinfo;refine wpList_append_own _ hgd s x t ho base e i0 z k bytes ht hi hz0 hz1 hz2 hzs hk v n xs hs (hown.alloc _) ⟨W.heap.size,0,none⟩ 1 1 us hx aG ?_ hu h63 hbytes ?_ ?_
 ·exact fQ
 ·exact gz
 intro v' w' h1 h2 _;exact h v' w' h1 (((At base W).alloc hbase _).grown h2 aN (fun k hk=>(hown.lt k hk).1))
end
theorem Qg1:(prog.info? 94).map (fun i=>(i.zero,i.size,i.bytes))=some (some sf0,4,56):=aM
theorem Tryz.infoSt:(prog.info? 90).map (fun i=>(i.zero,i.size,i.bytes))=some (some (.agg #[.int .u8 0,a8,.slice none 0 0]),3,48):=aM
section
open Go.Maps (Keyed)
def Mx(v:Value):Option (DataW Value × List MemPlace):=some (.held v,[])
def Da(P:Program)(k:TypeId)(z:Value)(w:World)(b n:Nat)(F:Lit->Value):Prop:=
 ∃D:DataW Value,w.ownsMap P k Mx b n D/\Go.Maps.IsMap D/\∀l,WideAt.IsKeyLit l->D.atKey l (.held z)=.held (F l)
section
variable {P:Program} {k:TypeId} {z:Value} {w w':World} {b n:Nat} {F:Lit->Value}
theorem Da.made(w:World)(P:Program)(k:TypeId)(z:Value):Da P k z (w.alloc (.map #[] 0)) w 0 (fun _=>z):=
 ⟨.map [],World.ownsMap_made w P k Mx,Go.Maps.isMap_empty,fun l _=>rfl⟩
theorem Da.lt(h:Da P k z w b n F):b<w.heap.size:=by
 obtain⟨D,h1,_⟩:=h;exact h1.lt
theorem Da.kept{row:Option Nat}(h:Da P k z w b n F)(hg:w.grownBy w' row)(hne:some b≠row):Da P k z w' b n F:=by
 obtain⟨D,h1,h2⟩:=h;exact⟨D,h1.kept hg hne,h2⟩
theorem Da.below(h:Da P k z w b n F)(hb:Below w w w'):Da P k z w' b n F:=
 h.kept (row:=none) ⟨hb.os,hb.tape,hb.output,hb.size,fun k hk _=>hb.block k hk⟩ aK
theorem Da.belowAt{B:Nat}(h:Da P k z w b n F)(hlt:b<B)(hb:Below B w w'):Da P k z w' b n F:=by
 obtain⟨D,⟨es,clock,h1,h2,h3,h4⟩,h5⟩:=h;exact⟨D,⟨es,clock,(hb.block b hlt).trans h1,h2,h3,h4⟩,h5⟩
theorem Da.alloc(h:Da P k z w b n F)(o:Obj):Da P k z (w.alloc o) b n F:=h.below ((At _ _).alloc (Ao _) o)
theorem Da.drew(h:Da P k z w b n F):Da P k z w.drew b n F:=h
theorem Da.mono(h:Da P k z w b n F){n':Nat}(hn:n<=n'):Da P k z w b n' F:=by
 obtain⟨D,h1,h2⟩:=h;exact⟨D,h1.mono hn,h2⟩
theorem Da.of_eq{G:Lit->Value}(h:Da P k z w b n F)(e:∀l,WideAt.IsKeyLit l->F l=G l):Da P k z w b n G:=by
 obtain⟨D,h1,h2,h3⟩:=h;exact⟨D,h1,h2,fun l hl=>by rw[h3 l hl,e l hl]⟩
theorem Da.lookup{t e:TypeId}(h:Da P k z w b n F)(K:Keyed P k)(ht:P.underlying t=some (.map k e))(hz:(zeroValue e).run P w=.ok z w){key:Value}{kl:Lit}(hkey:keyOf P k key=some kl):
  (Instr.lookup t (.map (some b)) key false).run P w=.ok (F kl) w:=by
 obtain⟨D,h1,h2,h3⟩:=h;obtain⟨v,ps,hrun,hv⟩:=h1.lookup K ht hz (show Mx z=some (.held z,[])from rfl) hkey;rw[h3 kl (K.key hkey)]at hv;simp only[Mx,aj,aD,DataW.held.injEq]at hv;rw[hrun,hv.1]
theorem Da.store{t e:TypeId}(h:Da P k z w b n F)(K:Keyed P k)(ht:P.underlying t=some (.map k e))(hn:n<maxLen){key:Value}(val:Value){kl:Lit}(hkey:keyOf P k key=some kl):
  ∃w',(Instr.mapUpdate t (.map (some b)) key val).run P w=.ok () w'/\Da P k z w' b (n+1) (fun l=>if l.sameKey kl=true then val else F l)/\w.grownBy w' (some b):=by
 obtain⟨D,h1,h2,h3⟩:=h;obtain⟨w',hrun,r1,r2⟩:=h1.update K ht hn hkey (show Mx val=some (.held val,[])from rfl);refine⟨w',hrun,⟨_,r1,h2.put _ _,fun l hl=>?_⟩,r2⟩;by_cases e:l=kl
 ·subst e;rw[Go.Maps.atKey_put_same h2 hl];simp[WideAt.sameKey_self hl]
 rw[Go.Maps.atKey_put_other e,h3 l hl];simp[show l.sameKey kl=false from Go.Maps.sameKey_ne e]
end
end
end Go.Proofs.YtpjijpcemejlnaaGreatDoor
namespace Go.Proofs
open Go.Shelf
def Tryz.lays160_ren:Go.Shelf.Ren:=⟨fun|160=>173|232=>198|231=>167|227=>168|234=>199|233=>169|236=>200|235=>170|228=>195|271=>215|151=>197|197=>196|120=>223|152=>214|260=>213|137=>221|119=>222|224=>208|225=>207|217=>206|266=>217|n=>n,fun|9=>9|4=>4|3=>3|5=>5|117=>216|116=>215|0=>0|124=>219|21=>21|105=>238|46=>195|119=>255|139=>258|138=>257|n=>n,fun|3=>1|4=>2|n=>n⟩
theorem Tryz.lays160:Go.Proofs.Lays.n160 Tryz.prog Tryz.lays160_ren:={
 mixed:=by kernel_rfl
 f119:=Tryz.func222.trans (congrArg some (by kernel_rfl))
 f120:=Tryz.func223.trans (congrArg some (by kernel_rfl))
 f137:=Tryz.func221.trans (congrArg some (by kernel_rfl))
 f151:=Tryz.func197.trans (congrArg some (by kernel_rfl))
 f152:=Tryz.func214.trans (congrArg some (by kernel_rfl))
 f160:=Tryz.func173.trans (congrArg some (by kernel_rfl))
 f197:=Tryz.func196.trans (congrArg some (by kernel_rfl))
 f217:=Tryz.func206.trans (congrArg some (by kernel_rfl))
 f224:=Tryz.func208.trans (congrArg some (by kernel_rfl))
 f225:=Tryz.func207.trans (congrArg some (by kernel_rfl))
 f227:=Tryz.func168.trans (congrArg some (by kernel_rfl))
 f228:=Tryz.func195.trans (congrArg some (by kernel_rfl))
 f231:=Tryz.func167.trans (congrArg some (by kernel_rfl))
 f232:=Tryz.func198.trans (congrArg some (by kernel_rfl))
 f233:=Tryz.func169.trans (congrArg some (by kernel_rfl))
 f234:=Tryz.func199.trans (congrArg some (by kernel_rfl))
 f235:=Tryz.func170.trans (congrArg some (by kernel_rfl))
 f236:=Tryz.func200.trans (congrArg some (by kernel_rfl))
 f260:=Tryz.func213.trans (congrArg some (by kernel_rfl))
 f266:=Tryz.func217.trans (congrArg some (by kernel_rfl))
 f271:=Tryz.func215.trans (congrArg some (by kernel_rfl))
 t0:=Tryz.underlying0
 a0:=Tryz.isAgg0
 z0:=Tryz.sizeOf0
 v0:=Tryz.zeroValue0
 t3:=Tryz.underlying3
 a3:=Tryz.isAgg3
 z3:=Tryz.sizeOf3
 v3:=Tryz.zeroValue3
 t4:=Tryz.underlying4
 a4:=Tryz.isAgg4
 z4:=Tryz.sizeOf4
 v4:=Tryz.zeroValue4
 t5:=Tryz.underlying5
 a5:=Tryz.isAgg5
 z5:=Tryz.sizeOf5
 v5:=Tryz.zeroValue5
 t9:=Tryz.underlying9
 a9:=Tryz.isAgg9
 z9:=Tryz.sizeOf9
 v9:=Tryz.zeroValue9
 t21:=Tryz.underlying21
 a21:=Tryz.isAgg21
 z21:=Tryz.sizeOf21
 v21:=Tryz.zeroValue21
 t46:=Tryz.underlying195
 a46:=Tryz.isAgg195
 z46:=Tryz.sizeOf195
 v46:=Tryz.zeroValue195
 t105:=Tryz.underlying238
 a105:=Tryz.isAgg238
 z105:=Tryz.sizeOf238
 v105:=Tryz.zeroValue238
 t116:=Tryz.underlying215
 a116:=Tryz.isAgg215
 z116:=Tryz.sizeOf215
 t117:=Tryz.underlying216
 a117:=Tryz.isAgg216
 z117:=Tryz.sizeOf216
 v117:=Tryz.zeroValue216
 t119:=Tryz.underlying255
 a119:=Tryz.isAgg255
 z119:=Tryz.sizeOf255
 t124:=Tryz.underlying219
 a124:=Tryz.isAgg219
 z124:=Tryz.sizeOf219
 v124:=Tryz.zeroValue219
 t138:=Tryz.underlying257
 a138:=Tryz.isAgg257
 z138:=Tryz.sizeOf257
 v138:=Tryz.zeroValue257
 t139:=Tryz.underlying258
 a139:=Tryz.isAgg258
 z139:=Tryz.sizeOf258
 v139:=Tryz.zeroValue258
 g3:=by kernel_rfl
 g4:=by kernel_rfl}
def Tryz.lays161_ren:Go.Shelf.Ren:=⟨fun|161=>137|231=>167|227=>168|233=>169|235=>170|228=>195|197=>196|151=>197|260=>213|152=>214|137=>221|119=>222|224=>208|225=>207|217=>206|266=>217|n=>n,fun|9=>9|4=>4|3=>3|5=>5|117=>216|116=>215|0=>0|124=>219|105=>238|21=>21|119=>255|46=>195|139=>258|138=>257|n=>n,fun|3=>1|4=>2|n=>n⟩
theorem Tryz.lays161:Go.Proofs.Lays.n161 Tryz.prog Tryz.lays161_ren:={
 mixed:=by kernel_rfl
 f119:=Tryz.func222.trans (congrArg some (by kernel_rfl))
 f137:=Tryz.func221.trans (congrArg some (by kernel_rfl))
 f151:=Tryz.func197.trans (congrArg some (by kernel_rfl))
 f152:=Tryz.func214.trans (congrArg some (by kernel_rfl))
 f161:=Tryz.func137.trans (congrArg some (by kernel_rfl))
 f197:=Tryz.func196.trans (congrArg some (by kernel_rfl))
 f217:=Tryz.func206.trans (congrArg some (by kernel_rfl))
 f224:=Tryz.func208.trans (congrArg some (by kernel_rfl))
 f225:=Tryz.func207.trans (congrArg some (by kernel_rfl))
 f227:=Tryz.func168.trans (congrArg some (by kernel_rfl))
 f228:=Tryz.func195.trans (congrArg some (by kernel_rfl))
 f231:=Tryz.func167.trans (congrArg some (by kernel_rfl))
 f233:=Tryz.func169.trans (congrArg some (by kernel_rfl))
 f235:=Tryz.func170.trans (congrArg some (by kernel_rfl))
 f260:=Tryz.func213.trans (congrArg some (by kernel_rfl))
 f266:=Tryz.func217.trans (congrArg some (by kernel_rfl))
 t0:=Tryz.underlying0
 a0:=Tryz.isAgg0
 z0:=Tryz.sizeOf0
 v0:=Tryz.zeroValue0
 t3:=Tryz.underlying3
 a3:=Tryz.isAgg3
 z3:=Tryz.sizeOf3
 v3:=Tryz.zeroValue3
 t4:=Tryz.underlying4
 a4:=Tryz.isAgg4
 z4:=Tryz.sizeOf4
 v4:=Tryz.zeroValue4
 t5:=Tryz.underlying5
 a5:=Tryz.isAgg5
 z5:=Tryz.sizeOf5
 v5:=Tryz.zeroValue5
 t9:=Tryz.underlying9
 a9:=Tryz.isAgg9
 z9:=Tryz.sizeOf9
 v9:=Tryz.zeroValue9
 t21:=Tryz.underlying21
 a21:=Tryz.isAgg21
 z21:=Tryz.sizeOf21
 v21:=Tryz.zeroValue21
 t46:=Tryz.underlying195
 a46:=Tryz.isAgg195
 z46:=Tryz.sizeOf195
 v46:=Tryz.zeroValue195
 t105:=Tryz.underlying238
 a105:=Tryz.isAgg238
 z105:=Tryz.sizeOf238
 v105:=Tryz.zeroValue238
 t116:=Tryz.underlying215
 a116:=Tryz.isAgg215
 z116:=Tryz.sizeOf215
 t117:=Tryz.underlying216
 a117:=Tryz.isAgg216
 z117:=Tryz.sizeOf216
 v117:=Tryz.zeroValue216
 t119:=Tryz.underlying255
 a119:=Tryz.isAgg255
 z119:=Tryz.sizeOf255
 t124:=Tryz.underlying219
 a124:=Tryz.isAgg219
 z124:=Tryz.sizeOf219
 v124:=Tryz.zeroValue219
 t138:=Tryz.underlying257
 a138:=Tryz.isAgg257
 z138:=Tryz.sizeOf257
 v138:=Tryz.zeroValue257
 t139:=Tryz.underlying258
 a139:=Tryz.isAgg258
 z139:=Tryz.sizeOf258
 v139:=Tryz.zeroValue258
 g3:=by kernel_rfl
 g4:=by kernel_rfl}
def Tryz.lays99_ren:Go.Shelf.Ren:=⟨fun|99=>138|206=>171|n=>n,fun|9=>9|4=>4|3=>3|n=>n,fun|n=>n⟩
theorem Tryz.lays99:Go.Proofs.Lays.n99 Tryz.prog Tryz.lays99_ren:={
 mixed:=by kernel_rfl
 f99:=Tryz.func138.trans (congrArg some (by kernel_rfl))
 f206:=Tryz.func171.trans (congrArg some (by kernel_rfl))
 t3:=Tryz.underlying3
 a3:=Tryz.isAgg3
 z3:=Tryz.sizeOf3
 v3:=Tryz.zeroValue3
 t4:=Tryz.underlying4
 a4:=Tryz.isAgg4
 z4:=Tryz.sizeOf4
 v4:=Tryz.zeroValue4
 t9:=Tryz.underlying9
 a9:=Tryz.isAgg9
 z9:=Tryz.sizeOf9
 v9:=Tryz.zeroValue9}
def Tryz.lays100_ren:Go.Shelf.Ren:=⟨fun|100=>139|207=>172|n=>n,fun|9=>9|4=>4|3=>3|n=>n,fun|n=>n⟩
theorem Tryz.lays100:Go.Proofs.Lays.n100 Tryz.prog Tryz.lays100_ren:={
 mixed:=by kernel_rfl
 f100:=Tryz.func139.trans (congrArg some (by kernel_rfl))
 f207:=Tryz.func172.trans (congrArg some (by kernel_rfl))
 t3:=Tryz.underlying3
 a3:=Tryz.isAgg3
 z3:=Tryz.sizeOf3
 v3:=Tryz.zeroValue3
 t4:=Tryz.underlying4
 a4:=Tryz.isAgg4
 z4:=Tryz.sizeOf4
 v4:=Tryz.zeroValue4
 t9:=Tryz.underlying9
 a9:=Tryz.isAgg9
 z9:=Tryz.sizeOf9
 v9:=Tryz.zeroValue9}
def Tryz.lays143_ren:Go.Shelf.Ren:=⟨fun|143=>192|219=>191|217=>206|225=>207|224=>208|267=>209|266=>217|314=>218|n=>n,fun|9=>9|3=>3|4=>4|5=>5|46=>195|146=>253|51=>231|n=>n,fun|1=>0|n=>n⟩
theorem Tryz.lays143:Go.Proofs.Lays.n143 Tryz.prog Tryz.lays143_ren:={
 mixed:=by kernel_rfl
 f143:=Tryz.func192.trans (congrArg some (by kernel_rfl))
 f217:=Tryz.func206.trans (congrArg some (by kernel_rfl))
 f219:=Tryz.func191.trans (congrArg some (by kernel_rfl))
 f224:=Tryz.func208.trans (congrArg some (by kernel_rfl))
 f225:=Tryz.func207.trans (congrArg some (by kernel_rfl))
 f266:=Tryz.func217.trans (congrArg some (by kernel_rfl))
 f267:=Tryz.func209.trans (congrArg some (by kernel_rfl))
 f314:=Tryz.func218.trans (congrArg some (by kernel_rfl))
 t3:=Tryz.underlying3
 a3:=Tryz.isAgg3
 z3:=Tryz.sizeOf3
 v3:=Tryz.zeroValue3
 t4:=Tryz.underlying4
 a4:=Tryz.isAgg4
 z4:=Tryz.sizeOf4
 v4:=Tryz.zeroValue4
 t5:=Tryz.underlying5
 a5:=Tryz.isAgg5
 z5:=Tryz.sizeOf5
 v5:=Tryz.zeroValue5
 t9:=Tryz.underlying9
 a9:=Tryz.isAgg9
 z9:=Tryz.sizeOf9
 v9:=Tryz.zeroValue9
 t46:=Tryz.underlying195
 a46:=Tryz.isAgg195
 z46:=Tryz.sizeOf195
 v46:=Tryz.zeroValue195
 t51:=Tryz.underlying231
 a51:=Tryz.isAgg231
 z51:=Tryz.sizeOf231
 v51:=Tryz.zeroValue231
 t146:=Tryz.underlying253
 a146:=Tryz.isAgg253
 z146:=Tryz.sizeOf253
 v146:=Tryz.zeroValue253
 g1:=by kernel_rfl}
def Tryz.lays144_ren:Go.Shelf.Ren:=⟨fun|144=>164|143=>192|219=>191|217=>206|225=>207|224=>208|267=>209|266=>217|314=>218|n=>n,fun|9=>9|4=>4|3=>3|5=>5|46=>195|146=>253|51=>231|n=>n,fun|1=>0|n=>n⟩
theorem Tryz.lays144:Go.Proofs.Lays.n144 Tryz.prog Tryz.lays144_ren:={
 mixed:=by kernel_rfl
 f143:=Tryz.func192.trans (congrArg some (by kernel_rfl))
 f144:=Tryz.func164.trans (congrArg some (by kernel_rfl))
 f217:=Tryz.func206.trans (congrArg some (by kernel_rfl))
 f219:=Tryz.func191.trans (congrArg some (by kernel_rfl))
 f224:=Tryz.func208.trans (congrArg some (by kernel_rfl))
 f225:=Tryz.func207.trans (congrArg some (by kernel_rfl))
 f266:=Tryz.func217.trans (congrArg some (by kernel_rfl))
 f267:=Tryz.func209.trans (congrArg some (by kernel_rfl))
 f314:=Tryz.func218.trans (congrArg some (by kernel_rfl))
 t3:=Tryz.underlying3
 a3:=Tryz.isAgg3
 z3:=Tryz.sizeOf3
 v3:=Tryz.zeroValue3
 t4:=Tryz.underlying4
 a4:=Tryz.isAgg4
 z4:=Tryz.sizeOf4
 v4:=Tryz.zeroValue4
 t5:=Tryz.underlying5
 a5:=Tryz.isAgg5
 z5:=Tryz.sizeOf5
 v5:=Tryz.zeroValue5
 t9:=Tryz.underlying9
 a9:=Tryz.isAgg9
 z9:=Tryz.sizeOf9
 v9:=Tryz.zeroValue9
 t46:=Tryz.underlying195
 a46:=Tryz.isAgg195
 z46:=Tryz.sizeOf195
 v46:=Tryz.zeroValue195
 t51:=Tryz.underlying231
 a51:=Tryz.isAgg231
 z51:=Tryz.sizeOf231
 v51:=Tryz.zeroValue231
 t146:=Tryz.underlying253
 a146:=Tryz.isAgg253
 z146:=Tryz.sizeOf253
 v146:=Tryz.zeroValue253
 g1:=by kernel_rfl}
def Tryz.lays138_ren:Go.Shelf.Ren:=⟨fun|138=>211|195=>219|218=>220|143=>192|219=>191|217=>206|225=>207|224=>208|267=>209|266=>217|314=>218|n=>n,fun|9=>9|3=>3|4=>4|5=>5|0=>0|46=>195|146=>253|51=>231|n=>n,fun|1=>0|n=>n⟩
theorem Tryz.lays138:Go.Proofs.Lays.n138 Tryz.prog Tryz.lays138_ren:={
 mixed:=by kernel_rfl
 f138:=Tryz.func211.trans (congrArg some (by kernel_rfl))
 f143:=Tryz.func192.trans (congrArg some (by kernel_rfl))
 f195:=Tryz.func219.trans (congrArg some (by kernel_rfl))
 f217:=Tryz.func206.trans (congrArg some (by kernel_rfl))
 f218:=Tryz.func220.trans (congrArg some (by kernel_rfl))
 f219:=Tryz.func191.trans (congrArg some (by kernel_rfl))
 f224:=Tryz.func208.trans (congrArg some (by kernel_rfl))
 f225:=Tryz.func207.trans (congrArg some (by kernel_rfl))
 f266:=Tryz.func217.trans (congrArg some (by kernel_rfl))
 f267:=Tryz.func209.trans (congrArg some (by kernel_rfl))
 f314:=Tryz.func218.trans (congrArg some (by kernel_rfl))
 t0:=Tryz.underlying0
 a0:=Tryz.isAgg0
 z0:=Tryz.sizeOf0
 v0:=Tryz.zeroValue0
 t3:=Tryz.underlying3
 a3:=Tryz.isAgg3
 z3:=Tryz.sizeOf3
 v3:=Tryz.zeroValue3
 t4:=Tryz.underlying4
 a4:=Tryz.isAgg4
 z4:=Tryz.sizeOf4
 v4:=Tryz.zeroValue4
 t5:=Tryz.underlying5
 a5:=Tryz.isAgg5
 z5:=Tryz.sizeOf5
 v5:=Tryz.zeroValue5
 t9:=Tryz.underlying9
 a9:=Tryz.isAgg9
 z9:=Tryz.sizeOf9
 v9:=Tryz.zeroValue9
 t46:=Tryz.underlying195
 a46:=Tryz.isAgg195
 z46:=Tryz.sizeOf195
 v46:=Tryz.zeroValue195
 t51:=Tryz.underlying231
 a51:=Tryz.isAgg231
 z51:=Tryz.sizeOf231
 v51:=Tryz.zeroValue231
 t146:=Tryz.underlying253
 a146:=Tryz.isAgg253
 z146:=Tryz.sizeOf253
 v146:=Tryz.zeroValue253
 g1:=by kernel_rfl}
def Tryz.lays219_ren:Go.Shelf.Ren:=⟨fun|219=>191|217=>206|225=>207|224=>208|267=>209|266=>217|314=>218|n=>n,fun|9=>9|3=>3|4=>4|5=>5|46=>195|146=>253|51=>231|n=>n,fun|1=>0|n=>n⟩
theorem Tryz.lays219:Go.Proofs.Lays.n219 Tryz.prog Tryz.lays219_ren:={
 mixed:=by kernel_rfl
 f217:=Tryz.func206.trans (congrArg some (by kernel_rfl))
 f219:=Tryz.func191.trans (congrArg some (by kernel_rfl))
 f224:=Tryz.func208.trans (congrArg some (by kernel_rfl))
 f225:=Tryz.func207.trans (congrArg some (by kernel_rfl))
 f266:=Tryz.func217.trans (congrArg some (by kernel_rfl))
 f267:=Tryz.func209.trans (congrArg some (by kernel_rfl))
 f314:=Tryz.func218.trans (congrArg some (by kernel_rfl))
 t3:=Tryz.underlying3
 a3:=Tryz.isAgg3
 z3:=Tryz.sizeOf3
 v3:=Tryz.zeroValue3
 t4:=Tryz.underlying4
 a4:=Tryz.isAgg4
 z4:=Tryz.sizeOf4
 v4:=Tryz.zeroValue4
 t5:=Tryz.underlying5
 a5:=Tryz.isAgg5
 z5:=Tryz.sizeOf5
 v5:=Tryz.zeroValue5
 t9:=Tryz.underlying9
 a9:=Tryz.isAgg9
 z9:=Tryz.sizeOf9
 v9:=Tryz.zeroValue9
 t46:=Tryz.underlying195
 a46:=Tryz.isAgg195
 z46:=Tryz.sizeOf195
 v46:=Tryz.zeroValue195
 t51:=Tryz.underlying231
 a51:=Tryz.isAgg231
 z51:=Tryz.sizeOf231
 v51:=Tryz.zeroValue231
 t146:=Tryz.underlying253
 a146:=Tryz.isAgg253
 z146:=Tryz.sizeOf253
 v146:=Tryz.zeroValue253
 g1:=by kernel_rfl}
def Tryz.lays156_ren:Go.Shelf.Ren:=⟨fun|156=>45|165=>82|166=>83|169=>84|240=>126|241=>127|276=>160|277=>161|n=>n,fun|31=>31|9=>9|3=>3|4=>4|0=>0|20=>20|72=>134|76=>138|70=>132|37=>22|75=>137|127=>180|164=>206|5=>5|80=>50|n=>n,fun|n=>n⟩
theorem Tryz.lays156:Go.Proofs.Lays.n156 Tryz.prog Tryz.lays156_ren:={
 mixed:=by kernel_rfl
 f156:=Tryz.func45.trans (congrArg some (by kernel_rfl))
 f165:=Tryz.func82.trans (congrArg some (by kernel_rfl))
 f166:=Tryz.func83.trans (congrArg some (by kernel_rfl))
 f169:=Tryz.func84.trans (congrArg some (by kernel_rfl))
 f240:=Tryz.func126.trans (congrArg some (by kernel_rfl))
 f241:=Tryz.func127.trans (congrArg some (by kernel_rfl))
 f276:=Tryz.func160.trans (congrArg some (by kernel_rfl))
 f277:=Tryz.func161.trans (congrArg some (by kernel_rfl))
 t0:=Tryz.underlying0
 a0:=Tryz.isAgg0
 z0:=Tryz.sizeOf0
 v0:=Tryz.zeroValue0
 t3:=Tryz.underlying3
 a3:=Tryz.isAgg3
 z3:=Tryz.sizeOf3
 v3:=Tryz.zeroValue3
 t4:=Tryz.underlying4
 a4:=Tryz.isAgg4
 z4:=Tryz.sizeOf4
 v4:=Tryz.zeroValue4
 t9:=Tryz.underlying9
 a9:=Tryz.isAgg9
 z9:=Tryz.sizeOf9
 v9:=Tryz.zeroValue9
 t20:=Tryz.underlying20
 a20:=Tryz.isAgg20
 z20:=Tryz.sizeOf20
 v20:=Tryz.zeroValue20
 t31:=Tryz.underlying31
 a31:=Tryz.isAgg31
 z31:=Tryz.sizeOf31
 v31:=Tryz.zeroValue31
 t37:=Tryz.underlying22
 a37:=Tryz.isAgg22
 z37:=Tryz.sizeOf22
 v37:=Tryz.zeroValue22
 t70:=Tryz.underlying132
 a70:=Tryz.isAgg132
 z70:=Tryz.sizeOf132
 v70:=Tryz.zeroValue132
 t72:=Tryz.underlying134
 a72:=Tryz.isAgg134
 z72:=Tryz.sizeOf134
 v72:=Tryz.zeroValue134
 t75:=Tryz.underlying137
 a75:=Tryz.isAgg137
 z75:=Tryz.sizeOf137
 v75:=Tryz.zeroValue137
 t76:=Tryz.underlying138
 a76:=Tryz.isAgg138
 z76:=Tryz.sizeOf138
 v76:=Tryz.zeroValue138
 t127:=Tryz.underlying180
 a127:=Tryz.isAgg180
 z127:=Tryz.sizeOf180
 v127:=Tryz.zeroValue180
 t164:=Tryz.underlying206
 a164:=Tryz.isAgg206
 z164:=Tryz.sizeOf206
 v164:=Tryz.zeroValue206}
end Go.Proofs
namespace Go.Proofs.YtpjijpcemejlnaaGreatDoor
open Go.RowKit Go.Proofs.Tryz
section
attribute [local go_sem] Qhn Qg5 Qgq Qe7 ByteArray.mk_append_mk
theorem Mh(s cs:List UInt8)(w:World)(hcs:cs.length<4294967281)(ha:∀b∈cs,b.toNat<128):
  Calls prog 137 #[s,cs] w fun e w'=>e=.returned (.string ⟨(s.dropWhile (cs.contains ·)).toArray⟩)/\Below w w w':=
 Any.strings_TrimLeft_laid Tryz.lays161 aM ⟨s.toArray⟩ ⟨cs.toArray⟩ w hcs (fun j b h=>ha b (List.mem_of_getElem? h))
theorem J2{p:UInt8->Bool}:∀{l:List UInt8},l.dropWhile p=[]↔l.all p=true
 |[]=>aK
 |x::l=>by
  have ih:=J2 (p:=p) (l:=l);by_cases h:p x=true
  ·simp only[List.dropWhile_cons,h,if_true,List.all_cons,Bool.true_and];exact ih
  simp[h]
theorem Qc3{l cs:List UInt8}:Lib.trimS l cs=[]↔l.all (cs.contains ·)=true:=by
 unfold Lib.trimS Lib.trimLeftS Lib.trimRightS;rw[J2];have hsp:l.reverse.takeWhile (cs.contains ·)++l.reverse.dropWhile (cs.contains ·)=l.reverse:=List.takeWhile_append_dropWhile;have htk:=Gx (p:=fun x=>cs.contains x) l.reverse;constructor
 ·intro h;rw[List.all_eq_true]at h htk ⊢;intro x hx;have hx':x∈l.reverse:=List.mem_reverse.2 hx;rw[<-hsp]at hx';rcases af.1 hx' with hx'|hx'
  ·exact htk x hx'
  exact h x (List.mem_reverse.2 hx')
 intro h;rw[List.all_eq_true]at h ⊢;intro x hx;have hx':=List.mem_reverse.1 hx;exact h x (List.mem_reverse.1 (by rw[<-hsp];exact List.mem_append_right _ hx'))
theorem Xr(s cs:List UInt8)(w:World)(hs:s.length<=9223372036854775807)(hcs:cs.length<4294967281)(ha:∀b∈cs,b.toNat<128):
  Calls prog 173 #[s,cs] w fun e w'=>(∃r:List UInt8,e=.returned r/\(r=[]↔s.all (cs.contains ·)=true))/\Below w w w':=
 (Any.strings_Trim_laid Tryz.lays160 aM ⟨s.toArray⟩ ⟨cs.toArray⟩ w hs hcs (fun j b h=>ha b (List.mem_of_getElem? h))).mono fun e w' ⟨h1,h2⟩=>⟨⟨_,h1,Qc3⟩,h2⟩
theorem Vq(s p:List UInt8):Lib.hasPrefix s p=p.isPrefixOf s:=by
 unfold Lib.hasPrefix;first|rfl|simp
theorem Nt(s p:List UInt8)(w:World):
  Calls prog 138 #[s,p] w fun e w'=>e=.returned (.bool (p.isPrefixOf s))/\w=w':=
 (Any.strings_HasPrefix Tryz.lays99 ⟨s.toArray⟩ ⟨p.toArray⟩ w).mono fun e w' ⟨h1,h2⟩=>⟨by rw[h1,Vq],h2.symm⟩
theorem Nr(s p:List UInt8)(w:World)(hs:s.length<=9223372036854775807):
  Calls prog 139 #[s,p] w fun e w'=>e=.returned (.bool (Lib.hasSuffix s p))/\w=w':=
 (Any.strings_HasSuffix Tryz.lays100 ⟨s.toArray⟩ ⟨p.toArray⟩ w hs).mono fun e w' ⟨h1,h2⟩=>⟨h1,h2.symm⟩
theorem G8(s:List UInt8)(c:UInt8):(c∉s/\Lib.indexByte s c = -1)\/∃p t,s=p++c::t/\c∉p/\Lib.indexByte s c=(p.length:Int):=by
 induction s with
 |nil=>exact .inl ⟨by simp,rfl⟩
 |cons x s ih=>
  by_cases hx:x=c
  ·exact .inr ⟨[],s,by simp[hx],by simp,by simp[Lib.indexByte,hx]⟩
  have hb:(x == c)=false:=by simpa using hx
  rcases ih with⟨hn,e⟩|⟨p,t,es,hp,e⟩
  ·exact .inl ⟨by simp;exact⟨fun h=>hx h.symm,hn⟩,by simp[Lib.indexByte,hb,e]⟩
  refine .inr ⟨x::p,t,by simp[es],by simp;exact⟨fun h=>hx h.symm,hp⟩,?_⟩;have:¬(p.length:Int) = -1:=aG;simp[Lib.indexByte,hb,e,this]
theorem Qb9(s:List UInt8)(c:UInt8)(w:World):
  Calls prog 192 #[s,.string ⟨#[c]⟩] w fun e w'=>e=.returned (.int .i64 (Lib.indexByte s c))/\w=w':=
 (Any.strings_Index_one Tryz.lays143 ⟨s.toArray⟩ c w).mono fun e w' ⟨h1,h2⟩=>⟨h1,h2.symm⟩
theorem Sx(s:List UInt8)(c:UInt8)(w:World):
  Calls prog 191 #[s,.string ⟨#[c]⟩] w fun e w'=>e=.returned (.int .i64 (Lib.indexByte s c))/\w=w':=
 (Any.stringslite_Index_one Tryz.lays219 ⟨s.toArray⟩ c w).mono fun e w' ⟨h1,h2⟩=>⟨h1,h2.symm⟩
theorem Qc1(s:List UInt8)(c:UInt8)(w:World):
  Calls prog 211 #[s,.string ⟨#[c]⟩] w fun e w'=>e=.returned (.int .i64 ((s.count c:Nat):Int))/\w=w':=
 (Any.strings_Count_one Tryz.lays138 ⟨s.toArray⟩ c w).mono fun e w' ⟨h1,h2⟩=>⟨h1,h2.symm⟩
theorem Mf(s:List UInt8)(c:UInt8)(w:World):
  Calls prog 164 #[s,.string ⟨#[c]⟩] w fun e w'=>e=.returned (.bool (decide (c∈s)))/\w=w':=
 (Any.strings_Contains_one Tryz.lays144 ⟨s.toArray⟩ c w).mono fun e w' ⟨h1,h2⟩=>⟨by
  rw[h1];refine Do (Cf ?_);show decide (0<=Lib.indexByte s c)=_;rw[decide_eq_decide];rcases G8 s c with⟨hn,e⟩|⟨p,t,es,hp,e⟩
  ·rw[e];exact⟨fun h=>by omega,fun h=>absurd h hn⟩
  rw[e];exact⟨fun _=>by rw[es];simp,fun _=>by omega⟩,h2.symm⟩
def Zl(r:List UInt8 × List UInt8 × Bool):Value:=.tuple #[r.1,r.2.1,.bool r.2.2]
theorem Qdc(s:List UInt8)(c:UInt8)(w:World)(hs:s.length<=4294967280):
  Calls prog 163 #[s,.string ⟨#[c]⟩] w fun e w'=>e=.returned (Zl (Co c s))/\∃k,w'=w.drewN k:=by
 rcases G8 s c with⟨hn,e⟩|⟨p,t,es,hp,e⟩
 ·have Hc:=Aa (Nj hn);have Hi:=Aa (fun W=>Sx s c W);rw[e]at Hi;clear hn e;go_enter func163,ntmps163;go_wp2_with fail;refine(Hi.o _).mono ?_;rintro e w' ⟨rfl,rfl⟩;go_wp2_with fail;go_ret3
  exact⟨by rw[Hc.o];rfl,0,rfl⟩
 have Hc:=Aa (show Co c s=(p,t,true)by rw[es];exact Dq hp);have Hi:=Aa (fun W=>Sx s c W);rw[e]at Hi;have hl:s.length=p.length+1+t.length:=by rw[es];simp;omega
 have h1:s.take p.length=p:=by rw[es];simp
 have h2:s.drop (p.length+1)=t:=by
  rw[es,show p++c::t=(p++[c])++t by simp];exact List.drop_left' aK
 have k1:IntKind.i64.wrap ((p.length:Int)+1)=(p.length:Int)+1:=IntWalk.i64_in _ aG;have k2:((p.length:Int)+1).toNat=p.length+1:=aG;have k3:(0:Int)<=(p.length:Int)+1:=aG;have k4:(p.length:Int)+1<=(s.length:Int):=aG;have k5:(p.length:Int)<=(s.length:Int):=aG;have k6:(0:Int)<=(p.length:Int):=aG;have H1:=Aa h1;have H2:=Aa h2;clear e es hl h1 h2 hp;go_enter func163,ntmps163;go_wp2_with fail;refine(Hi.o _).mono ?_;rintro e w' ⟨rfl,rfl⟩;go_wp2_with fail;go_quiet (fail)
 go_wp2
 go_ret3
 exact⟨by rw[Hc.o];exact Qhj (Qdo H1.o) (Qdo H2.o) rfl,_,rfl⟩
theorem Pi(s:List UInt8)(c:UInt8)(w:World)(hs:s.length<=4294967280):
  Calls prog 134 #[s,.string ⟨#[c]⟩] w fun e w'=>e=.returned (Zl (Co c s))/\∃k,w'=w.drewN k:=by
 go_enter func134,ntmps134;go_wp2_with fail;refine(Qdc s c _ hs).mono ?_;rintro e w' ⟨rfl,k,rfl⟩;unfold Zl;go_wp2_with fail;go_ret3
 exact⟨rfl,k,rfl⟩
theorem Pf(c:UInt8):∀s:List UInt8,(Ae c s).length=s.count c+1
 |[]=>rfl
 |x::s=>by
  have ih:=Pf c s;simp only[Ae];by_cases h:x=c
  ·rw[if_pos h,h];simp[ih]
  rw[if_neg h];have e:List.count c (x::s)=List.count c s:=List.count_cons_of_ne h;rw[e];cases hs:Ae c s with
  |nil=>rw[hs]at ih;simp at ih
  |cons p ps=>rw[hs]at ih;simp at ih ⊢;exact ih
theorem Qdt(A B:List Value)(k:Nat)(x y:Value)(h:A.length=k):(A++x::B).set k y=A++y::B:=by
 subst h;rw[List.set_append,if_neg aG];simp
theorem Yz{w:World}{base k n g cap:Nat}{ps:List (List UInt8)}{ys:List Value}(h:w.ownsRow base 9 1 (.slice (g,0) n cap) n (Af ps++ys))(hk:ps.length=k)(hlt:k<n)(s:List UInt8):
  ∃zs,(w.setCell ⟨g,k,none⟩ s).ownsRow base 9 1 (.slice (g,0) n cap) n (Af (ps++[s])++zs)/\w.grownBy (w.setCell ⟨g,k,none⟩ s) (some g)/\w.frozen? ⟨g,k,none⟩=false/\∃u,w.cell? ⟨g,k,none⟩=some u:=by
 have hl:(Af ps).length=k:=by simp[Af,hk]
 have h1:=h.1;rw[ah,hl]at h1;obtain⟨y,zs,rfl⟩:∃y zs,ys=y::zs:=by
  cases ys with
  |nil=>simp at h1;omega
  |cons y zs=>exact⟨y,zs,rfl⟩
 have hst:=h.stored k s;rw[Qdt _ _ _ _ _ hl]at hst;have hc:=h.cellAt k aG;rw[List.getElem?_append_right aG,hl]at hc;simp at hc;exact⟨zs,by rw[Mt,List.append_assoc];exact hst.1,hst.2,h.frozenAt k,y,hc⟩
theorem Qfe{w:World}{base k n g cap:Nat}{ps:List (List UInt8)}{ys:List Value}(h:w.ownsRow base 9 1 (.slice (g,0) n cap) n (Af ps++ys))(hk:ps.length=k)(hle:k<=n):
  w.ownsRow base 9 1 (.slice (g,0) k cap) k (Af ps):=by
 rcases h.2 with⟨e,_⟩|⟨g',cap',cur,e,hb,hh,hnc,hcm,hcs,htk⟩
 ·cases e
 injection e with e1 e2 e3;injection e1 with e1;injection e1 with e1;subst e1;subst e3;refine⟨by simp[Af,hk],.inr ⟨g,cap,cur,rfl,hb,hh,by omega,hcm,hcs,?_⟩⟩;have hl:(Af ps).length=k:=by simp[Af,hk]
 have:(cur.toList.take (n*1)).take (k*1)=(Af ps++ys).take (k*1):=by rw[htk]
 rw[List.take_take,Nat.min_eq_left aG]at this;rw[this,List.take_append_of_le_length aG,ar aG]
theorem V8(s:List UInt8)(c:UInt8)(w:World)(hs:s.length<=4000000):
  Calls prog 193 #[s,.string ⟨#[c]⟩,.int .i64 0,.int .i64 (-1)] w fun e w'=>
   ∃v,e=.returned v/\w'.ownsRow w 9 1 v (Ae c s).length (Af (Ae c s))/\Below w w w':=by
 obtain⟨i0,hi,hz0,hz1,hz2⟩:=info_parts Dt;have hcnt:s.count c<=s.length:=List.count_le_length;have Hn:=Aa (Pf c s);have H0:=@Aa (Ae c s=[]++Ae c s) rfl;go_enter func193,ntmps193;go_wp2_with fail;refine(Qc1 s c w).mono ?_;rintro e w' ⟨rfl,rfl⟩;obtain⟨n,hn⟩:∃n,n=s.count c:=⟨_,rfl⟩
 have HN:=Aa hn;rw[<-hn]at hcnt ⊢;clear hn;have hmin:min ((n:Int)+1) ((s.length:Int)+1)=(n:Int)+1:=aG;go_wp2_with (at_make;refine wpList_make_full _ rfl _ _ 31 rfl w 9 i0 a8 1 underlying31 hi hz0 hz1 .i64 .i64 _ _ (n+1) rfl rfl aG aG (by rw[hz2];omega) bj (Ao _) ?_;intro w0 hown0 hgrow0)
 go_loopw [0,10] (fun x i wr=>∃(ps:List (List UInt8)) (r:List UInt8) (k:Nat),i=.int .i64 k/\k<=n/\x=r/\r.length<=s.length/\ps.length=k/\Hid (Ae c s=ps++Ae c r)/\Hid (r.count c+k=n) /\
   Hid (∃ys,wr.ownsRow w 9 1 (.slice (w,0) (n+1) (n+1)) (n+1) (Af ps++ys))/\Hid (Below w w wr)) (fun _ i _=>n - (intOf i).toNat)
 case atStart=>exact⟨[],s,0,rfl,ag _,rfl,Ao _,rfl,H0.o,by show _=_;have:=HN.o;omega,⟨_,hown0⟩,(At _ _).grown hgrow0 (Ao _) aK⟩
 case round=>
  obtain⟨ps,r,k,rfl,hk,rfl,hr,hps,hsp,hct,hown,hb⟩:=hrel;have Hps:=Aa hps;clear hps;by_cases hlt:k<n
  ·have hmem:c∈r:=by
    have:=hct.o;exact List.count_pos_iff.1 aG
   have hix:∃p t,r=p++c::t/\c∉p/\Lib.indexByte r c=(p.length:Int):=by
    rcases G8 r c with⟨h,_⟩|h
    ·exact absurd hmem h
    exact h
   obtain⟨p,t,er,hp,e⟩:=hix;have Hi:=Aa (fun W=>Qb9 r c W);rw[e]at Hi;have hl:r.length=p.length+1+t.length:=by rw[er];simp;omega
   have H1:=Aa (show r.take p.length=p by rw[er];simp)
   have H2:=Aa (show r.drop (p.length+1)=t by
    rw[er,show p++c::t=(p++[c])++t by simp];exact List.drop_left' aK)
   have Hsp:=Aa (show Ae c s=(ps++[p])++Ae c t by rw[hsp.o,er,Jn c p t hp];simp)
   have Hct:=Aa (show t.count c+(k+1)=n by
    have h0:=hct.o;have h1:p.count c=0:=List.count_eq_zero.2 hp;rw[er,List.count_append,h1,List.count_cons_self]at h0;omega)
   obtain⟨ys,hown'⟩:=hown.o;obtain⟨zs,n1,n2,n3,u,n4⟩:=Yz hown' Hps.o (by omega:k<n+1) p;have N1:=Aa (show (wr.setCell ⟨w.heap.size,k,none⟩ (.string ⟨(r.take p.length).toArray⟩)).ownsRow w 9 1 (.slice (w,0) (n+1) (n+1)) (n+1) (Af (ps++[p])++zs)by rw[H1.o];exact n1);have N2:=@Aa (Below w w (wr.setCell ⟨w.heap.size,k,none⟩ (.string ⟨(r.take p.length).toArray⟩))) (hb.o.setCell (p:=⟨w.heap.size,k,none⟩) (Ao _) _);have k1:(0:Int)<=(p.length:Int):=aG;have k2:(p.length:Int)<=(r.length:Int):=aG;have k3:p.length+1<=r.length:=aG;clear e er hp hmem hown' n1 n2 hl;go_wp2_with fail;refine(Hi.o _).mono ?_;rintro e w' ⟨rfl,rfl⟩;go_wp2_with fail;go_roundw
   case rel=>exact⟨ps++[p],t,k+1,by go_num,by omega,Qdo H2.o,by have:=congrArg List.length H2.o;simp at this;omega,by rw[ah,Hps.o];rfl,Hsp.o,Hct.o,⟨zs,N1.o⟩,N2.o⟩
   case measure=>simp[intOf];omega
  ·obtain rfl:k=n:=aG;have hno:c∉r:=by
    have:=hct.o;exact List.count_eq_zero.1 aG
   have Hsp:=Aa (show Ae c s=ps++[r]by rw[hsp.o,E9 c r hno]);obtain⟨ys,hown'⟩:=hown.o;obtain⟨zs,n1,n2,n3,u,n4⟩:=Yz hown' Hps.o (by omega:k<k+1) r;have N1:=Aa (Qfe n1 (by rw[ah,Hps.o];rfl) (Ao _));have N2:=@Aa (Below w w (wr.setCell ⟨w.heap.size,k,none⟩ r)) (hb.o.setCell (p:=⟨w.heap.size,k,none⟩) (Ao _) _);clear hown' n1 n2 hno;go_wp2_with fail;go_ret;refine⟨_,rfl,?_,N2.o⟩;have e1:(Ae c s).length=k+1:=by rw[Hsp.o,ah,Hps.o];rfl
   rw[e1,Hsp.o];exact N1.o
theorem Qa(s:List UInt8)(c:UInt8)(w:World)(hs:s.length<=4000000):
  Calls prog 165 #[s,.string ⟨#[c]⟩] w fun e w'=>
   ∃v,e=.returned v/\w'.ownsRow w 9 1 v (Ae c s).length (Af (Ae c s))/\Below w w w':=by
 go_enter func165,ntmps165;go_wp2_with fail;refine(V8 s c _ hs).mono ?_;rintro e w' ⟨v,rfl,ho,hb⟩;have Ho:=Aa ho;have Hb:=Aa hb;clear ho hb;go_wp2_with fail;go_ret;exact⟨_,rfl,Ho.o,Hb.o⟩
theorem Am{c d:UInt8}(h:c≠d):((c.toNat:Int) == (d.toNat:Int))=false:=by
 rw[beq_eq_false_iff_ne];intro e;exact h (UInt8.toNat_inj.1 aG)
theorem Bk{c d:UInt8}(h:c=d):((c.toNat:Int) == (d.toNat:Int))=true:=by rw[h];simp
theorem Qe3(n a b:Int)(w:World):
  Calls prog 162 #[.int .i64 n,.int .i64 a,.int .i64 b] w fun e w'=>e=.returned (.bool (decide (a<=n) && decide (n<=b)))/\w=w':=by
 go_enter func162,ntmps162;by_cases h1:a<=n
 ·have t1:decide (a<=n)=true:=dy;rw[t1];go_wp2
  exact gI
 have t1:decide (a<=n)=false:=dy;rw[t1];go_wp2
 exact gI
theorem B9(s:List UInt8)(w:World)(hs:s.length<=9223372036854775807):
  Calls prog 128 #[s] w fun e w'=>e=.returned (.bool (As s))/\w=w':=by
 go_enter func128,ntmps128;go_wp2
 go_loop [3] (fun i=>∃k:Nat,k<=s.length/\i=.int .i64 k/\Hid (∀c∈s.take k,Gg c=true)) (fun i=>s.length - (intOf i).toNat)
 case atStart=>exact⟨0,ag _,rfl,by intro c hc;simp at hc⟩
 case round=>
  obtain⟨k,hk,rfl,hin⟩:=hrel;by_cases hlt:k<s.length
  ·have hc:(s[k]).toNat<256:=(s[k]).toNat_lt;have Hts:=Aa (Bn s k hlt);have Hm:=Aa (ae hlt);by_cases h1:Gg s[k]=true
   ·have h2:=Kh.1 h1;obtain⟨h3,h4⟩:=h2;have H1:=Aa h1;clear h1;go_wp2
    go_round
    case rel=>
     refine⟨k+1,by omega,by go_num,?_⟩;intro c hc;rw[Hts.o]at hc;rcases af.1 hc with hc|hc
     ·exact hin.o c hc
     ·simp at hc;subst hc;exact H1.o
    case measure=>simp[intOf];omega
   have hno:As s=false:=by
    cases hh:As s with
    |false=>rfl
    |true=>exact absurd ((Dr.1 hh).2.2 _ Hm.o) h1
   have Hno:=Aa hno;have h2:(s[k]).toNat<97\/122<(s[k]).toNat:=by
    rcases aF (s[k]).toNat 97 with h|h
    ·exact .inl h
    rcases aF 122 (s[k]).toNat with h'|h'
    ·exact .inr h'
    exact absurd (Kh.2 ⟨h,h'⟩) h1
   clear h1 hno;rcases h2 with h2|h2
   ·go_wp2
    go_ret;exact⟨Do (Cf Hno.o.symm),rfl⟩
   have h3:97<=(s[k]).toNat:=aG;go_wp2
   go_ret;exact⟨Do (Cf Hno.o.symm),rfl⟩
  ·have hfin:(decide ((1:Int)<=(s.length:Int)) && decide ((s.length:Int)<=3))=As s:=by
    have hall:s.all Gg=true:=List.all_eq_true.2 (fun c hc=>hin.o c (by rw[ar aG];exact hc));unfold As;rw[hall,Bool.and_true];congr 1<;>· rw[decide_eq_decide];omega
   have Hfin:=Aa hfin;clear hfin;go_wp2_with fail;refine(Qe3 _ _ _ _).mono ?_;rintro e w' ⟨rfl,rfl⟩;go_wp2_with fail;go_ret;exact⟨Do (Cf Hfin.o),rfl⟩
theorem Sd(c:UInt8)(t:List UInt8)(hc:Bi c=true):(Cd (c::t)).isSome=(decide (t.length<12) && (Cd t).isSome):=by
 unfold Cd;simp only[List.dropWhile_cons,List.takeWhile_cons,hc,if_true];by_cases h:12<(c::t).length
 ·exact gA
 rw[if_neg h];simp at h;have h2:¬12<t.length:=aG;have:t.length<12:=aG;rw[if_neg h2];simp only[this,decide_true,Bool.true_and];by_cases h3:t.dropWhile Bi=[110]\/t.dropWhile Bi=[116]\/t.dropWhile Bi=[102]
 ·rw[if_pos h3,if_pos h3];rfl
 rw[if_neg h3,if_neg h3];by_cases h4:(t.dropWhile Bi).head?=some 64/\(t.dropWhile Bi).getLast?=some 59/\As ((t.dropWhile Bi).drop 1).dropLast=true
 ·rw[if_pos h4,if_pos h4];rfl
 rw[if_neg h4,if_neg h4]
theorem Qdz(t:List UInt8):(Cd (64::t)).isSome=(decide (t.length<12) && decide ((64::t).getLast?=some 59) && As t.dropLast):=by
 unfold Cd;have h64:Bi 64=false:=aJ;simp only[List.dropWhile_cons,List.takeWhile_cons,h64];by_cases h:12<(64::t).length
 ·exact gA
 rw[if_neg h];simp at h;have:t.length<12:=aG;simp[this];split
 ·rename_i hh;simp[hh]
 rename_i hh;simp only[Option.isSome_none];cases hn:As t.dropLast with
 |false=>simp
 |true=>simp[hn]at hh;simp[hh]
theorem Xq(c:UInt8)(t:List UInt8)(h1:Bi c=false)(h2:c≠64):(Cd (c::t)).isSome=(decide (c::t=[110]) || decide (c::t=[116]) || decide (c::t=[102])):=by
 unfold Cd;simp only[List.dropWhile_cons,List.takeWhile_cons,h1];by_cases h:12<(c::t).length
 ·rw[if_pos h];simp at h;have e:t≠[]:=by rintro rfl;simp at h
  simp[e]
 rw[if_neg h];by_cases h3:c::t=[110]\/c::t=[116]\/c::t=[102]
 ·simp only[an,if_false];rw[if_pos h3];rcases h3 with h3|h3|h3<;>simp[h3]
 simp only[an,if_false];rw[if_neg h3,if_neg (by simp[h2])];simp only[not_or]at h3;simp[h3]
theorem Me:∀(n:Nat) (s:List UInt8) (w:World),s.length<=n->s.length<=9223372036854775807 ->
  Calls prog 85 #[s] w fun e w'=>e=.returned (.bool (Cd s).isSome)/\w=w':=by
 intro n;induction n with
 |zero=>
  intro s w hn hs;obtain rfl:s=[]:=List.eq_nil_of_length_eq_zero aG;go_enter func85,ntmps85;go_wp2_with fail;exact gI
 |succ n ih=>
  intro s w hn hs;have Ih:=Aa ih;clear ih;by_cases h12:12<s.length
  ·have Hf:=Aa (show (Cd s).isSome=false by unfold Cd;rw[if_pos h12];rfl);go_enter func85,ntmps85;go_wp2_with fail;exact gJ
  cases s with
  |nil=>
   go_enter func85,ntmps85;go_wp2_with fail;exact gI
  |cons c t=>
   have hlt:t.length<12:=by simp at h12;omega
   have hn':t.length<=n:=by simp at hn;omega
   have hc:=c.toNat_lt;by_cases h91:c=91
   ·have Hf:=Aa (show (Cd (c::t)).isSome=(Cd t).isSome by rw[Sd c t (by rw[h91];decide)];simp[hlt]);have e1:c.toNat=91:=by rw[h91];rfl
    have t1:((c.toNat:Int) == 91)=true:=by simp[e1]
    clear h91 e1;go_enter func85,ntmps85;go_wp2_with fail;refine(Ih.o t _ hn' aG).mono ?_;rintro e w' ⟨rfl,rfl⟩;go_wp2_with fail;exact gJ
   have t1:((c.toNat:Int) == 91)=false:=Am h91;by_cases h63:c=63
   ·have Hf:=Aa (show (Cd (c::t)).isSome=(Cd t).isSome by rw[Sd c t (by rw[h63];decide)];simp[hlt]);have e1:c.toNat=63:=by rw[h63];rfl
    have t2:((c.toNat:Int) == 63)=true:=by simp[e1]
    clear h63 h91 e1;go_enter func85,ntmps85;go_wp2_with fail;refine(Ih.o t _ hn' aG).mono ?_;rintro e w' ⟨rfl,rfl⟩;go_wp2_with fail;exact gJ
   have t2:((c.toNat:Int) == 63)=false:=Am h63;by_cases h64:c=64
   ·have e1:c.toNat=64:=by rw[h64];rfl
    have t3:((c.toNat:Int) == 64)=true:=by simp[e1]
    rcases Dz t with rfl|⟨u,d,rfl⟩
    ·have Hf:=Aa (show (Cd [c]).isSome=false by rw[h64];decide);have t4:((c.toNat:Int) == 59)=false:=by simp[e1]
     clear h64 h63 h91 e1;go_enter func85,ntmps85;go_wp2_with fail;exact gJ
    have hk:=Qdz (u++[d]);have hl:(c::(u++[d])).getLast?=some d:=by
     exact gK
    rw[<-h64,hl,List.dropLast_concat]at hk;have hd:=d.toNat_lt;simp at hlt;have hgd:∀h,(c::(u++[d]))[u.length+1]'h=d:=by
     intro h;simp
    have hsl:(List.take u.length (u++[d]))=u:=aK;by_cases h59:d=59
    ·have e2:d.toNat=59:=by rw[h59];rfl
     have t4:((d.toNat:Int) == 59)=true:=by simp[e2]
     have Hf:=Aa (show (Cd (c::(u++[d]))).isSome=As u by rw[hk,h59];simp;omega);clear h64 h63 h91 e1 hk hl h59 e2;go_enter func85,ntmps85;go_wp2_with fail;refine(B9 u _ aG).mono ?_;rintro e w' ⟨rfl,rfl⟩;go_wp2_with fail;exact gJ
    have t4:((d.toNat:Int) == 59)=false:=Am h59;have Hf:=Aa (show (Cd (c::(u++[d]))).isSome=false by rw[hk];simp[h59]);clear h64 h63 h91 e1 hk hl h59;go_enter func85,ntmps85;go_wp2_with fail;exact gJ
   have t3:((c.toNat:Int) == 64)=false:=Am h64;have hk:=Xq c t (by simp[Bi,h91,h63]) h64;have Hk:=Aa hk;clear hk h64 h63 h91;cases t with
   |cons x t=>
    have hl2:t.length+1+1<=12:=by simp at hlt;omega
    have Hf:=Aa (show (Cd (c::x::t)).isSome=false by rw[Hk.o];simp);clear Hk;go_enter func85,ntmps85;go_wp2_with fail;all_goals
     go_ret;exact⟨Do (Cf (by rw[Hf.o])),rfl⟩
   |nil=>
    by_cases g1:c=110
    ·subst g1;go_enter func85,ntmps85;go_wp2_with fail;exact gI
    by_cases g2:c=116
    ·subst g2;go_enter func85,ntmps85;go_wp2_with fail;exact gI
    by_cases g3:c=102
    ·subst g3;go_enter func85,ntmps85;go_wp2_with fail;exact gI
    have Hf:=Aa (show (Cd [c]).isSome=false by rw[Hk.o];simp[g1,g2,g3]);go_enter func85,ntmps85;go_wp2_with fail;go_ret;exact⟨Do (Cf (by rw[Hf.o];simp[g1,g2,g3])),rfl⟩
def N0:Value->Nat
 |.string b=>b.size
 |_=>0
theorem Jb(l:List UInt8):N0 l=l.length:=rfl
theorem Qaq(k:Kd)(w:World)(hk:k.signs.all Bi=true)(hb:∃c t,Ck k=c::t/\Bi c=false)(hs:(Br k).length<=9223372036854775807):
  Calls prog 87 #[.string ⟨(Br k).toArray⟩] w fun e w'=>e=.returned (.string ⟨(Ck k).toArray⟩)/\w=w':=by
 obtain⟨d,u,hcu,hd⟩:=hb;have hlen:(Br k).length=k.signs.length+(u.length+1):=by unfold Br;rw[hcu];simp
 unfold Br;rw[hcu];generalize k.signs=g at hk hlen;clear hcu;have hd1:d≠91:=by rintro rfl;revert hd;decide
 have hd2:d≠63:=by rintro rfl;revert hd;decide
 have d1:((d.toNat:Int) == 91)=false:=Am hd1;have d2:((d.toNat:Int) == 63)=false:=Am hd2;have hdl:=d.toNat_lt;clear hd hd1 hd2;have hs2:g.length+u.length+1<=9223372036854775807:=aG;have Hk:=Aa (List.all_eq_true.1 hk);clear hs hlen hk;go_enter func87,ntmps87;go_wp2_with fail;go_loop [0] (fun x=>∃k:Nat,k<=g.length/\x=.string ⟨(g.drop k++d::u).toArray⟩) (fun x=>N0 x)
 case atStart=>exact⟨0,ag _,rfl⟩
 case round=>
  obtain⟨k,hk,rfl⟩:=hrel;by_cases hlt:k<g.length
  ·have hdr:g.drop k=g[k]::g.drop (k+1):=List.drop_eq_getElem_cons hlt;have hl3:(g.drop (k+1)).length<=g.length:=aK;have hsg:=Hk.o _ (ae hlt);have hc:=(g[k]).toNat_lt;rw[hdr];generalize g[k]=c at hsg hc;have hsg2:c=91\/c=63:=by simpa [Bi]using hsg
   have Hd:=Aa hdr;clear hsg hdr;rcases hsg2 with h91|h63
   ·have t1:((c.toNat:Int) == 91)=true:=Bk h91;clear h91;go_wp2_with fail;go_round
    case rel=>exact⟨k+1,by omega,Qdo (ar aK)⟩
    case measure=>rw[Jb,Jb];simp
   have t1:((c.toNat:Int) == 91)=false:=Am (d:=91) (by rw[h63];decide);have t2:((c.toNat:Int) == 63)=true:=Bk h63;clear h63;go_wp2_with fail;go_round
   case rel=>exact⟨k+1,by omega,Qdo (ar aK)⟩
   case measure=>rw[Jb,Jb];simp
  ·rw[List.drop_of_length_le aG,List.nil_append];go_wp2_with fail;exact gI
theorem Tm(nm:List UInt8)(w:World)(hn:nm.length<=1000):
  Calls prog 86 #[.string ⟨(64::(nm++[59])).toArray⟩] w fun e w'=>e=.returned (.tuple #[nm,.bool true])/\w=w':=by
 have h1:(nm++[59]).take nm.length=nm:=aK;go_enter func86,ntmps86;go_wp2_with fail;go_ret2;exact gL
theorem Yx(c:UInt8)(t:List UInt8)(w:World)(hc:c≠64)(hn:t.length<=1000):
  Calls prog 86 #[.string ⟨(c::t).toArray⟩] w fun e w'=>e=.returned (.tuple #[a8,.bool false])/\w=w':=by
 have t1:((c.toNat:Int) != 64)=true:=by
  have:=Am hc;rw[bne_iff_ne];intro e;have h64:((64:UInt8).toNat:Int)=64:=rfl;rw[beq_eq_false_iff_ne,h64]at this;exact this e
 clear hc;go_enter func86,ntmps86;go_wp2_with fail;go_ret2;exact gL
def Qgf:List UInt8:=[97,98,99,100,101,102,103,104,105,106,107,108,109,110,111,112,113,114,115,116,117,118,119,120,121,122]
def Qal:List UInt8:=[97,98,99,100,101,102,103,104,105,106,107,108,109,110,111,112,113,114,115,116,117,118,119,120,121,122,48,49,50,51,52,53,54,55,56,57,32]
theorem Ng{p:UInt8->Bool}(h:∀n,n<256->p (UInt8.ofNat n)=true)(c:UInt8):p c=true:=by
 have:=h c.toNat c.toNat_lt;rwa [UInt8.ofNat_toNat]at this
theorem Qem(c:UInt8):Qgf.contains c=Gg c:=by
 have:=Ng (p:=fun c=>Qgf.contains c == Gg c) dP c;simpa using this
theorem Yd(c:UInt8):Qal.contains c=Bv c:=by
 have:=Ng (p:=fun c=>Qal.contains c == Bv c) dP c;simpa using this
theorem Qgc(s:List UInt8):s.all (Qgf.contains ·)=s.all Gg:=by congr 1;funext c;exact Qem c
theorem Qfw(s:List UInt8):s.all (Qal.contains ·)=s.all Bv:=by congr 1;funext c;exact Yd c
theorem Jt(s:List UInt8)(w:World)(hs:s.length<=9223372036854775807):
  Calls prog 140 #[s] w fun e w'=>e=.returned (.bool (As s))/\Below w w w':=by
 by_cases h1:1<=s.length
 ·by_cases h3:s.length<=3
  ·have hT:=fun W=>Xr s Qgf W hs aJ aJ;simp only[Qgc]at hT;have HT:=Aa hT;have hn:As s=s.all Gg:=by simp[As,h1,h3]
   have Hn:=Aa hn;clear hn hT;go_enter func140,ntmps140;go_wp2_with fail;refine(HT.o _).mono ?_;rintro e w' ⟨⟨r,rfl,hr⟩,hb⟩;cases r with
   |nil=>
    have Hr:=Aa (hr.1 rfl);clear hr;go_wp2_with fail;exact gM
   |cons x r=>
    have Hr:=Aa (show s.all Gg=false by
     cases h:s.all Gg with
     |false=>rfl
     |true=>exact absurd (hr.2 h) aK)
    clear hr;go_wp2_with fail;exact gM
  have Hn:=Aa (show As s=false by simp[As,h3]);go_enter func140,ntmps140;go_wp2_with fail;exact gN
 have Hn:=Aa (show As s=false by simp[As,h1]);go_enter func140,ntmps140;go_wp2_with fail;exact gN
theorem Zz(s:List UInt8)(w:World)(hs:s.length<=9223372036854775807):
  Calls prog 212 #[s] w fun e w'=>e=.returned (.bool (C7 s))/\Below w w w':=by
 by_cases h3:s.length<=12
 ·have hT:=fun W=>Xr s Qal W hs aJ aJ;simp only[Qfw]at hT;have HT:=Aa hT;have hn:C7 s=s.all Bv:=by simp[C7,h3]
  have Hn:=Aa hn;have t0:decide ((s.length:Int)<=12)=true:=aN;clear hn hT;go_enter func212,ntmps212;go_wp2_with fail;refine(HT.o _).mono ?_;rintro e w' ⟨⟨r,rfl,hr⟩,hb⟩;cases r with
  |nil=>
   have Hr:=Aa (hr.1 rfl);clear hr;go_wp2_with fail;exact gM
  |cons x r=>
   have Hr:=Aa (show s.all Bv=false by
    cases h:s.all Bv with
    |false=>rfl
    |true=>exact absurd (hr.2 h) aK)
   clear hr;go_wp2_with fail;exact gM
 have Hn:=Aa (show C7 s=false by simp[C7,h3]);have t0:decide ((s.length:Int)<=12)=false:=aN;go_enter func212,ntmps212;go_wp2_with fail;exact gN
def pnV(s:List UInt8)(m:Nat):Value:=
 match Cc s with
 |none=>.tuple #[.int .i64 0,.bool false]
 |some n=>.tuple #[.int .i64 n,.bool (decide (n<=m))]
theorem Pb{s:List UInt8}{m:Nat}(h:Cc s=none):pnV s m=.tuple #[.int .i64 0,.bool false]:=by unfold pnV;rw[h]
theorem Rh{s:List UInt8}{m n:Nat}(h:Cc s=some n):pnV s m=.tuple #[.int .i64 n,.bool (decide (n<=m))]:=by unfold pnV;rw[h]
theorem Xd(s:List UInt8)(k:Nat)(hk:k<=6)(h:(s.take k).all Az=true):Et (s.take k)<=999999:=by
 exact gO
theorem Fl(s:List UInt8)(m:Nat)(w:World)(hs:s.length<=9223372036854775807)(hm:m<=999999):
  Calls prog 175 #[s,.int .i64 m] w fun e w'=>e=.returned (pnV s m)/\w=w':=by
 rcases aF s.length 1 with h1|h1
 ·obtain rfl:s=[]:=List.eq_nil_of_length_eq_zero aG;have Hn:=Aa (Pb (m:=m) (show Cc []=none by rfl));go_enter func175,ntmps175;go_wp2_with fail;go_ret2;exact gP
 rcases aF 6 s.length with h6|h6
 ·have Hn:=Aa (Pb (m:=m) (show Cc s=none by unfold Cc;rw[if_neg];rintro⟨_,h,_⟩;omega));go_enter func175,ntmps175;go_wp2_with fail;go_ret2;exact gP
 have hc0:=(s[0]' aG).toNat_lt;have h3:(s[0]' aG=48/\1<s.length)\/((((s[0]' aG).toNat:Int) == 48)=true/\s.length<=1)\/((((s[0]' aG).toNat:Int) == 48)=false):=by
  by_cases h:s[0]' aG=48
  ·rcases aF 1 s.length with h'|h'
   ·exact .inl ⟨h,h'⟩
   exact .inr (.inl ⟨Bk h,h'⟩)
  exact .inr (.inr (Am h))
 have hhd:(s.head?≠some 48\/s.length=1)\/(s[0]' aG=48/\1<s.length):=by
  rcases h3 with h|⟨_,h⟩|h
  ·exact .inr h
  ·exact .inl (.inr aG)
  refine .inl (.inl ?_);rw[List.head?_eq_getElem?,List.getElem?_eq_getElem aG];intro e;injection e with e;rw[e]at h;exact absurd h aJ
 have Hhd:=Aa hhd;clear hhd;rcases h3 with⟨hz,hl⟩|⟨t0,hl⟩|t0
 ·have Hn:=Aa (Pb (m:=m) (show Cc s=none by
   unfold Cc;rw[if_neg];rintro⟨_,_,_,h|h⟩
   ·apply h;rw[List.head?_eq_getElem?,List.getElem?_eq_getElem aG,hz]
   omega))
  have t0:(((s[0]' aG).toNat:Int) == 48)=true:=Bk hz;have Hz:=Aa hz;go_enter func175,ntmps175;go_wp2_with fail;go_ret2;exact gP
 all_goals
  have Hall:Hid (s.head?≠some 48\/s.length=1):=by
   rcases Hhd.o with h|⟨e,h⟩
   ·exact h
   exfalso
   first
    |omega
    |(rw[e]at t0;exact absurd t0 aJ)
  clear Hhd;go_enter func175,ntmps175;go_wp2_with fail;go_loop [6,28] (fun x i=>∃k:Nat,i=.int .i64 k/\k<=s.length/\Hid ((s.take k).all Az=true)/\Et (s.take k)<=999999/\x=.int .i64 ((Et (s.take k):Nat):Int)) (fun _ i=>s.length - (intOf i).toNat)
  case atStart=>exact⟨0,rfl,ag _,by simp[Hid],by simp[Et],by simp[Et]⟩
  case round=>
   obtain⟨k,rfl,hk,hdig,hv,rfl⟩:=hrel;by_cases hlt:k<s.length
   ·have hc:=(s[k]).toNat_lt;have Hts:=Aa (Bn s k hlt);by_cases hd:Az s[k]=true
    ·have hd2:=Cx.1 hd;obtain⟨d1,d2⟩:=hd2;have hdig2:(s.take (k+1)).all Az=true:=by
      rw[Hts.o,List.all_append,hdig.o];simp[hd]
     have hv2:=Xd s (k+1) aG hdig2;have Hdig2:=Aa hdig2;have Hv:=Aa (show Et (s.take (k+1))=10*Et (s.take k)+((s[k]).toNat - 48)by rw[Hts.o,Jd]);clear hd hdig2;go_wp2_with fail;go_round
     case rel=>exact⟨k+1,by go_num,by omega,Hdig2.o,hv2,Qhc (by rw[Hv.o];omega)⟩
     case measure=>simp[intOf];omega
    have Hn:=Aa (Pb (m:=m) (show Cc s=none by
     unfold Cc;rw[if_neg];rintro⟨_,_,h,_⟩;exact hd (List.all_eq_true.1 h _ (ae hlt))))
    have h2:(s[k]).toNat<48\/(48<=(s[k]).toNat/\57<(s[k]).toNat):=by
     rcases aF (s[k]).toNat 48 with h|h
     ·exact .inl h
     rcases aF 57 (s[k]).toNat with h'|h'
     ·exact .inr ⟨h,h'⟩
     exact absurd (Cx.2 ⟨h,h'⟩) hd
    clear hd;rcases h2 with h2|⟨h2,h4⟩
    ·go_wp2_with fail;go_ret2;exact gP
    go_wp2_with fail;go_ret2;exact gP
   ·have e:s.take k=s:=ar aG
    have Hn:=Aa (Rh (m:=m) (show Cc s=some (Et (s.take k))by
     have hd:=hdig.o;rw[e]at hd ⊢;unfold Cc;rw[if_pos ⟨by omega,by omega,hd,Hall.o⟩]))
    clear e;generalize Et (s.take k)=v at hv Hn;by_cases hvm:v<=m
    ·go_wp2_with fail;go_ret2;exact⟨by rw[Hn.o];exact Qfq rfl (Cf (by simp[hvm])),rfl⟩
    go_wp2_with fail;go_ret2;exact⟨by rw[Hn.o];exact Qfq rfl (Cf aN),rfl⟩
abbrev Cj:=List UInt8
def P2(S:List Ty):Nat->Kd->List Cj->List Cj
 |0,_,out=>out
 |n+1,k,out=>
  if k.base=[64]/\k.name∉out then
   (match By S k.name with
    |none=>out++[k.name]
    |some t=>if t.sort=69 then out++[k.name]else t.fields.foldl (fun o f=>P2 S n f.kind o) (out++[k.name]))
  else out
def J3(S:List Ty):List Cj:=S.map (·.name)
def Qe8(S:List Ty)(out:List Cj):Prop:=out.Nodup/\∀x∈out,x∈J3 S
theorem Qe8.nil(S:List Ty):Qe8 S []:=⟨List.nodup_nil,by simp⟩
theorem Qbe:∀(l m:List Cj),l.Nodup->(∀x∈l,x∈m)->l.length<=m.length
 |[],m,_,_=>ag _
 |x::l,m,hn,hs=>by
  obtain⟨h1,h2⟩:=List.nodup_cons.1 hn;have hx:=hs x aK
  have ih:=Qbe l (m.erase x) h2 (fun y hy=>by
   have hne:y≠x:=by rintro rfl;exact h1 hy
   exact(List.mem_erase_of_ne hne).2 (hs y (by simp[hy])))
  have hl:=List.length_erase_of_mem hx;have hp:0<m.length:=List.length_pos_iff.2 (by rintro rfl;cases hx);simp;omega
theorem Qe8.len{S:List Ty}{out:List Cj}(h:Qe8 S out):out.length<=S.length:=by
 have:=Qbe out (J3 S) h.1 h.2;simpa [J3]using this
end
theorem Kj{α:Type}{p q:α->Bool}:∀(l:List α) (_:∀x,q x=true->p x=true) {a:α} (_:a∈l) (_:p a=true) (_:q a=false),(l.filter q).length<(l.filter p).length
 |[],_,_,ha,_,_=>by cases ha
 |x::l,h,a,ha,hp,hq=>by
  have hle:∀l:List α,(l.filter q).length<=(l.filter p).length:=by
   intro l;induction l with
   |nil=>exact Ao _
   |cons y l ih=>
    simp only[List.filter_cons];by_cases h1:q y=true
    ·rw[if_pos h1,if_pos (h y h1)];simpa using ih
    rw[if_neg h1];split
    ·simp;omega
    exact ih
  rcases az.1 ha with rfl|ha
  ·have:=hle l;simp only[List.filter_cons,hp,hq];simp;omega
  have ih:=Kj l h ha hp hq;simp only[List.filter_cons];by_cases h1:q x=true
  ·rw[if_pos h1,if_pos (h x h1)];simpa using ih
  rw[if_neg h1];split
  ·simp;omega
  exact ih
section
variable {P:Program} {ops:Array Oper} {Q:Exit->Act->World->Prop} {md:Region.Mode}
def Pl(ops:Array Oper)(listed:Array Bool):Nat:=((List.range ops.size).filter fun i=>!listed.getD i false).length
theorem T0(hac:∀(i:Nat) (o:Oper),ops[i]?=some o->∀e∈o.after,Region.binds md e=true->e.on<i)(I:(Nat->Bool)->Act->World->Prop)
  (hstep:∀(l:Nat->Bool) a w i o,ops[i]?=some o->l i=false->(∀e∈o.after,Region.binds md e=true->l e.on=true)->I l a w->wpOp P ops Q i (I fun j=>if j=i then true else l j) a w)
  (hdone:∀l a w,(∀i,i<ops.size->l i=true)->I l a w->Q .normal a w):
  ∀(fuel:Nat) (listed:Array Bool) a w,listed.size=ops.size->Pl ops listed<=fuel->I (fun j=>listed.getD j false) a w->wpAny P md ops Q fuel listed a w:=by
 have hall:∀listed:Array Bool,listed.size=ops.size->Region.ready md ops listed=[]->∀i,i<ops.size->listed.getD i false=true:=by
  intro listed hsz hr i;induction i using Nat.strongRecOn with
  |ind i ih=>
   intro hi;cases hb:listed.getD i false with
   |true=>rfl
   |false=>
    have:i∈Region.ready md ops listed:=by
     rw[mem_ready]
     refine ⟨by have h2:i<listed.size:=by omega
                simpa [Array.getD,h2]using hb,ops[i],by simp[hi],fun e he hbd=>?_⟩
     have h1:=hac i ops[i] (by simp[hi]) e he hbd;exact ih e.on h1 aG
    rw[hr]at this;cases this
 intro fuel;induction fuel with
 |zero=>
  intro listed a w hsz hst hI;have hall':∀i,i<ops.size->listed.getD i false=true:=by
   intro i hi;have h0:((List.range ops.size).filter fun i=>!listed.getD i false)=[]:=List.eq_nil_of_length_eq_zero (by unfold Pl at hst;omega);have:=List.filter_eq_nil_iff.1 h0 i (List.mem_range.2 hi);simpa using this
  refine⟨?_,hdone _ a w hall' hI⟩;cases hr:Region.ready md ops listed with
  |nil=>rfl
  |cons j js=>
   have hj:j∈Region.ready md ops listed:=by rw[hr];simp
   obtain⟨h1,o,h2,_⟩:=mem_ready.1 hj;have h3:j<ops.size:=(Array.getElem?_eq_some_iff.1 h2).1;have h4:=hall' j h3;have h5:j<listed.size:=aG;simp[Array.getD,h5]at h1 h4;rw[h1]at h4;cases h4
 |succ fuel ih=>
  intro listed a w hsz hst hI;refine⟨fun hr=>hdone _ a w (hall listed hsz hr) hI,fun i hi=>?_⟩;obtain⟨h1,o,h2,h3⟩:=mem_ready.1 hi;have hlt:i<ops.size:=(Array.getElem?_eq_some_iff.1 h2).1;have hlt2:i<listed.size:=aG;have h1':listed.getD i false=false:=by simpa [Array.getD,hlt2]using h1
  have hset:∀j,(listed.setIfInBounds i true).getD j false=if j=i then true else listed.getD j false:=by
   intro j;by_cases hj:j=i
   ·subst hj;simp[Array.getD,hlt2]
   rw[if_neg hj,getD_set_ne _ (Ne.symm hj)]
  refine wpOp_mono (fun a' w' h=>ih (listed.setIfInBounds i true) a' w' (by simpa using hsz) ?_ ?_) (hstep _ a w i o h2 h1' h3 hI)
  ·have:=Kj (p:=fun i=>!listed.getD i false) (q:=fun j=>!(listed.setIfInBounds i true).getD j false) (List.range ops.size) (fun x hx=>by
    simp only[Bool.not_eq_true']at hx ⊢;rw[hset]at hx;by_cases hxi:x=i
    ·rw[if_pos hxi]at hx;cases hx
    rwa [if_neg hxi]at hx) (List.mem_range.2 hlt) (by simp only[h1',Bool.not_false]) (by simp only[hset,if_true,Bool.not_true])
   unfold Pl at hst ⊢;omega
  have e:(fun j=>(listed.setIfInBounds i true).getD j false)=fun j=>if j=i then true else listed.getD j false:=funext hset
  rw[e];exact h
def Aq(p:Nat->Oper->Prop)(k:Nat)(os:List Oper):Prop:=∀i o,os[i]?=some o->p (k+i) o
theorem Aq.nil{p:Nat->Oper->Prop}{k:Nat}:Aq p k []:=fun i o h=>by simp at h
theorem Aq.cons{p:Nat->Oper->Prop}{k:Nat}{o:Oper}{os:List Oper}(h:p k o)(hs:Aq p (k+1) os):Aq p k (o::os):=fun i o' ho=>by
 cases i with
 |zero=>simp at ho;subst ho;exact h
 |succ i=>simp at ho;have:=hs i o' ho;rwa [Nat.add_assoc,Nat.add_comm 1 i]at this
theorem Tc{id:Nat}(hm:P.follows .mixedOrders=true)(hac:(List.range ops.size).all (fun i=>((ops[i]?).map fun o=>o.after.all fun e=>!Region.binds .any e || decide (e.on<i)).getD true)=true)
  (mk:(Nat->Value)->Act) (u0:Nat->Value) {a:Act} (ha:a=mk u0) {w:World}
  (φ:Nat->Value->World->Prop) (R:(Nat->Bool)->World->Prop) (Rel:World->World->Prop)
  (hput:Aq (fun i o=>∀u v,(mk u).put o.dst v=mk (fun j=>if j=i then v else u j)) 0 ops.toList)
  (hst:∀w w',Rel w w'->∀i v,φ i v w->φ i v w')
  (h0:R (fun _=>false) w.drew)
  (hstep:Aq (fun i o=>∀(l:Nat->Bool) u w,l i=false->(∀e∈o.after,Region.binds .any e=true->l e.on=true/\φ e.on (u e.on) w)->R l w ->
   ∀K:Act->World->Prop,(∀v w' a',φ i v w'->Rel w w'->R (fun j=>if j=i then true else l j) w'->a'=(mk u).put o.dst v->K a' w') ->
    if Region.wanted o (yielded ops (mk u).tmps)=true then Oper.wp P o (mk u) w K Q else K ((mk u).put o.dst undef) w) 0 ops.toList)
  (hdone:∀(l:Nat->Bool) u w,(∀i,i<ops.size->l i=true)->(∀i,i<ops.size->φ i (u i) w)->R l w->Q .normal (mk u) w):(Code.region id ops true).wp P Q a w:=by
 subst ha;have hst':=fun i v w w' h=>hst w w' h i v;have hac':∀(i:Nat) (o:Oper),ops[i]?=some o->∀e∈o.after,Region.binds .any e=true->e.on<i:=by
  intro i o ho e he hbd;have hlt:i<ops.size:=(Array.getElem?_eq_some_iff.1 ho).1;have h:=List.all_eq_true.1 hac i (List.mem_range.2 hlt);rw[ho]at h;have:=Array.all_eq_true_iff_forall_mem.1 h e he;simpa [hbd]using this
 refine wp_region_any hm ?_
 refine T0 hac' (fun l a w=>∃u,a=mk u/\(∀i,l i=true->i<ops.size->φ i (u i) w)/\R l w) ?_ ?_ ops.size _ (mk u0) _ aK (by
  unfold Pl;exact ad (List.length_filter_le _ _) aK) ⟨u0,rfl,?_,?_⟩
 ·rintro l a w i o ho hl hpre ⟨u,rfl,hφ,hR⟩;have ho':ops.toList[i]?=some o:=by simpa using ho
  have hp:=hput i o ho';have hs:=hstep i o ho';rw[am]at hp hs;refine wpOp_step ho fun K' hK'=>?_;refine hs l u w hl (fun e he hb=>⟨hpre e he hb,hφ e.on (hpre e he hb) ?_⟩) hR K' (fun v w' a' hv hrel hR' ha'=>hK' _ _ ⟨_,ha'.trans (hp u v),fun j hj hjs=>?_,hR'⟩)
  ·exact gk
  by_cases hji:j=i
  ·subst hji;simpa using hv
  have hj':l j=true:=ej;simpa [hji]using hst' j _ w w' hrel (hφ j hj' hjs)
 ·rintro l a w hl ⟨u,rfl,hφ,hR⟩;exact gQ
 ·intro i hi;simp[Array.getD]at hi
 have e:(fun j=>(Array.replicate ops.size false).getD j false)=fun _=>false:=by
  funext j
  simp[Array.getD]
 rw[e];exact h0
def Bb:List Nat->Nat->(Nat->Value)->List Value->List Value
 |[],_,_,t=>t
 |s::S,i,u,t=>Bb S (i+1) u (t.set s (u i))
def Bj(a:Act)(S:List Nat)(u:Nat->Value):Act:={tmps:=(Bb S 0 u a.tmps.toList).toArray,defers:=a.defers}
theorem Ky:∀(S:List Nat) (i:Nat) (u:Nat->Value) (t:List Value),(∀k s,S[k]?=some s->u (i+k)=t.getD s undef)->Bb S i u t=t
 |[],_,_,_,_=>rfl
 |s::S,i,u,t,h=>by
  have h0:u i=t.getD s undef:=by simpa using h 0 s rfl
  have e:t.set s (u i)=t:=by
   rw[h0];apply List.ext_getElem?;intro j;by_cases hj:s=j
   ·subst hj;by_cases hl:s<t.length
    ·simp[List.getD,hl]
    simp[hl]
   simp[hj]
  rw[Bb,e];exact Ky S (i+1) u t fun k s' hk=>by
   have:=h (k+1) s' (by simpa using hk);rwa [show i+1+k=i+(k+1)by omega]
theorem Kf:∀(S:List Nat) (i:Nat) (u v:Nat->Value) (t:List Value),(∀j,i<=j->u j=v j)->Bb S i u t=Bb S i v t
 |[],_,_,_,_,_=>rfl
 |s::S,i,u,v,t,h=>by
  rw[Bb,Bb,h i (Ao _)];exact Kf S (i+1) u v _ fun j hj=>h j aG
theorem Pe:∀(S:List Nat) (i:Nat) (u:Nat->Value) (t:List Value) (s:Nat) (v:Value),s∉S->(Bb S i u t).set s v=Bb S i u (t.set s v)
 |[],_,_,_,_,_,_=>rfl
 |s'::S,i,u,t,s,v,h=>by
  have h1:s≠s':=fun e=>h (by simp[e]);rw[Bb,Bb,Pe S (i+1) u _ s v (fun hm=>h (by simp[hm]))];congr 1
  exact(List.set_comm _ _ h1).symm
theorem M8:∀(S:List Nat) (i:Nat) (u:Nat->Value) (t:List Value) (k s:Nat) (v:Value),S.Nodup->S[k]?=some s->(Bb S i u t).set s v=Bb S i (fun j=>if j=i+k then v else u j) t
 |[],_,_,_,k,s,v,_,h=>by simp at h
 |s'::S,i,u,t,0,s,v,hn,h=>by
  simp at h;subst h;rw[Bb,Bb,Pe S (i+1) u _ s' v (List.nodup_cons.1 hn).1];rw[if_pos aG,List.set_set];exact Kf S (i+1) u _ _ fun j hj=>by rw[if_neg aG]
 |s'::S,i,u,t,k+1,s,v,hn,h=>by
  simp at h;rw[Bb,Bb,M8 S (i+1) u _ k s v (List.nodup_cons.1 hn).2 h,if_neg aG];rw[show i+1+k=i+(k+1)by omega]
theorem M0:∀(S:List Nat) (i:Nat) (u:Nat->Value) (t:List Value) (k s:Nat) (v:Value),S[k]?=some s->t.length<=s->Bb S i u t=Bb S i (fun j=>if j=i+k then v else u j) t
 |[],_,_,_,k,s,v,h,_=>by simp at h
 |s'::S,i,u,t,0,s,v,h,hl=>by
  simp at h;subst h;rw[Bb,Bb,List.set_eq_of_length_le hl,List.set_eq_of_length_le hl];exact Kf S (i+1) u _ _ fun j hj=>by rw[if_neg aG]
 |s'::S,i,u,t,k+1,s,v,h,hl=>by
  simp at h;rw[Bb,Bb,M0 S (i+1) u _ k s v h (by simpa using hl),if_neg aG];rw[show i+1+k=i+(k+1)by omega]
def Fi(n:Nat):List Oper->List Nat->Bool
 |[],[]=>true
 |o::os,s::S=>(match o.dst with|some d=>d == s|none=>decide (n<=s)) && !S.contains s && Fi n os S
 |_,_=>false
theorem Mg{n:Nat}:∀{os:List Oper} {S:List Nat},Fi n os S=true->S.Nodup/\∀(i:Nat) (o:Oper),os[i]?=some o->∃s,S[i]?=some s/\(o.dst=some s\/(o.dst=none/\n<=s))
 |[],[],_=>⟨List.nodup_nil,fun i o h=>by simp at h⟩
 |[],_::_,h=>by simp[Fi]at h
 |_::_,[],h=>by simp[Fi]at h
 |o::os,s::S,h=>by
  simp only[Fi,av]at h;obtain⟨⟨h1,h2⟩,h3⟩:=h;obtain⟨hn,hs⟩:=Mg h3;refine⟨List.nodup_cons.2 ⟨by simpa using h2,hn⟩,fun i o' ho=>?_⟩;cases i with
  |zero=>
   simp at ho;subst ho;refine⟨s,rfl,?_⟩;cases hd:o.dst with
   |some d=>rw[hd]at h1;simp at h1;exact .inl (by rw[h1])
   |none=>rw[hd]at h1;simp at h1;exact .inr ⟨rfl,h1⟩
  |succ i=>simpa using hs i o' (by simpa using ho)
theorem Fo{id:Nat}{a:Act}{w:World}(S:List Nat)(hm:P.follows .mixedOrders=true)(hac:(List.range ops.size).all (fun i=>((ops[i]?).map fun o=>o.after.all fun e=>!Region.binds .any e || decide (e.on<i)).getD true)=true)
  (hS:Fi a.tmps.size ops.toList S=true) {mk:(Nat->Value)->Act} (hmk:∀u,Bj a S u=mk u)
  (φ:Nat->Value->World->Prop) (R:(Nat->Bool)->World->Prop) (Rel:World->World->Prop)
  (hst:∀w w',Rel w w'->∀i v,φ i v w->φ i v w')
  (h0:R (fun _=>false) w.drew)
  (hstep:Aq (fun i o=>∀(l:Nat->Bool) u w,l i=false->(∀e∈o.after,Region.binds .any e=true->l e.on=true/\φ e.on (u e.on) w)->R l w ->
   ∀K:Act->World->Prop,(∀v w' a',φ i v w'->Rel w w'->R (fun j=>if j=i then true else l j) w'->a'=(mk u).put o.dst v->K a' w') ->
    if Region.wanted o (yielded ops (mk u).tmps)=true then Oper.wp P o (mk u) w K Q else K ((mk u).put o.dst undef) w) 0 ops.toList)
  (hdone:∀(l:Nat->Bool) u w,(∀i,i<ops.size->l i=true)->(∀i,i<ops.size->φ i (u i) w)->R l w->Q .normal (mk u) w):(Code.region id ops true).wp P Q a w:=by
 obtain rfl:Bj a S=mk:=funext hmk;obtain⟨hn,hs⟩:=Mg hS;refine Tc hm hac (Bj a S) (fun i=>a.tmps.toList.getD (S.getD i 0) undef) ?_ φ R Rel ?_ hst h0 hstep hdone
 ·exact gE
 intro i o ho u v;rw[am];obtain⟨s,hsi,hd|⟨hd,hb⟩⟩:=hs i o ho
 ·exact fU
 have e:=M0 S 0 u a.tmps.toList i s v hsi (by simpa using hb);rw[am]at e;unfold Bj Act.put;rw[hd];simp only[<-e]
end
section
variable {P:Program} {ops:Array Oper} {Q:Exit->Act->World->Prop}
theorem Ba{id:Nat}{a:Act}{w:World}(S:List Nat)(hm:P.follows .mixedOrders=true)(hac:(List.range ops.size).all (fun i=>((ops[i]?).map fun o=>o.after.all fun e=>!Region.binds .any e || decide (e.on<i)).getD true)=true)
  (hS:Fi a.tmps.size ops.toList S=true) {mk:(Nat->Value)->Act} (hmk:∀u,Bj a S u=mk u)
  (φ:Nat->Value->World->Prop) (R:(Nat->Bool)->(Nat->Value)->World->Prop) (Rel:World->World->Prop)
  (hst:∀w w',Rel w w'->∀i v,φ i v w->φ i v w')
  (h0:R (fun _=>false) (fun i=>a.tmps.toList.getD (S.getD i 0) undef) w.drew)
  (hstep:Aq (fun i o=>∀(l:Nat->Bool) u w,l i=false->(∀e∈o.after,Region.binds .any e=true->l e.on=true/\φ e.on (u e.on) w)->R l u w ->
   (∀j,l j=false->u j=a.tmps.toList.getD (S.getD j 0) undef)->(∀(j:Nat) (o:Oper),ops[j]?=some o->∀e∈o.after,Region.binds .any e=true->l e.on=false->l j=false) ->
   ∀K:Act->World->Prop,(∀v w' a',φ i v w'->Rel w w'->R (fun j=>if j=i then true else l j) (fun j=>if j=i then v else u j) w'->a'=(mk u).put o.dst v->K a' w') ->
    if Region.wanted o (yielded ops (mk u).tmps)=true then Oper.wp P o (mk u) w K Q else K ((mk u).put o.dst undef) w) 0 ops.toList)
  (hdone:∀(l:Nat->Bool) u w,(∀i,i<ops.size->l i=true)->(∀i,i<ops.size->φ i (u i) w)->R l u w->Q .normal (mk u) w):(Code.region id ops true).wp P Q a w:=by
 obtain rfl:Bj a S=mk:=funext hmk;obtain⟨hn,hs⟩:=Mg hS;have hput:∀(i:Nat) (o:Oper),ops.toList[i]?=some o->∀u v,(Bj a S u).put o.dst v=Bj a S (fun j=>if j=i then v else u j):=by
  intro i o ho u v;obtain⟨s,hsi,hd|⟨hd,hb⟩⟩:=hs i o ho
  ·exact fU
  have e:=M0 S 0 u a.tmps.toList i s v hsi (by simpa using hb);rw[am]at e;unfold Bj Act.put;rw[hd];simp only[<-e]
 have hac':∀(i:Nat) (o:Oper),ops[i]?=some o->∀e∈o.after,Region.binds .any e=true->e.on<i:=by
  intro i o ho e he hbd;have hlt:i<ops.size:=(Array.getElem?_eq_some_iff.1 ho).1;have h:=List.all_eq_true.1 hac i (List.mem_range.2 hlt);rw[ho]at h;have:=Array.all_eq_true_iff_forall_mem.1 h e he;simpa [hbd]using this
 refine wp_region_any hm ?_
 refine T0 hac' (fun l b w=>∃u,b=Bj a S u/\(∀i,l i=true->i<ops.size->φ i (u i) w)/\R l u w/\(∀j,l j=false->u j=a.tmps.toList.getD (S.getD j 0) undef) /\
   (∀(j:Nat) (o:Oper),ops[j]?=some o->∀e∈o.after,Region.binds .any e=true->l e.on=false->l j=false)) ?_ ?_ ops.size _ a _ aK (by
  unfold Pl;exact ad (List.length_filter_le _ _) aK) ⟨fun i=>a.tmps.toList.getD (S.getD i 0) undef,?_,?_,?_,fun _ _=>rfl,?_⟩
 ·rintro l b w i o ho hl hpre ⟨u,rfl,hφ,hR,hi,hdn⟩;have ho':ops.toList[i]?=some o:=by simpa using ho
  have hp:=hput i o ho';have hs':=hstep i o ho';rw[am]at hs';refine wpOp_step ho fun K' hK'=>?_;refine hs' l u w hl (fun e he hb=>⟨hpre e he hb,hφ e.on (hpre e he hb) ?_⟩) hR hi hdn K' (fun v w' a' hv hrel hR' ha'=>hK' _ _ ⟨_,ha'.trans (hp u v),fun j hj hjs=>?_,hR',fun j hj=>?_,fun j o' hj e he hb hle=>?_⟩)
  ·exact gk
  ·by_cases hji:j=i
   ·subst hji;simpa using hv
   have hj':l j=true:=ej;simpa [hji]using hst w w' hrel j _ (hφ j hj' hjs)
  ·by_cases hji:j=i
   ·subst hji;simp at hj
   have hj':l j=false:=ej;simpa [hji]using hi j hj'
  have hne:e.on≠i:=by rintro rfl;simp at hle
  have hle':l e.on=false:=by simpa [hne]using hle
  have hlj:=hdn j o' hj e he hb hle';have hji:j≠i:=by
   rintro rfl;rw[ho]at hj;injection hj with hj;subst hj;rw[hpre e he hb]at hle';cases hle'
  simpa [hji]using hlj
 ·rintro l b w hl ⟨u,rfl,hφ,hR,_,_⟩;exact gQ
 ·exact gE
 ·intro i hi;simp[Array.getD]at hi
 ·have e:(fun j=>(Array.replicate ops.size false).getD j false)=fun _=>false:=by
   funext j
   simp[Array.getD]
  rw[e];exact h0
 intro j o hj e he hb _;simp[Array.getD]
end
theorem Bu{ops:Array Oper}{l:Nat->Bool}(h:∀(j:Nat) (o:Oper),ops[j]?=some o->∀e∈o.after,Region.binds .any e=true->l e.on=false->l j=false)(j i:Nat)(hc:((ops[j]?).map fun o=>o.after.toList.any fun e=>decide (e.on=i) && Region.binds .any e)=some true)(hi:l i=false):l j=false:=by
 cases ho:ops[j]? with
 |none=>rw[ho]at hc;cases hc
 |some o=>
  rw[ho]at hc;have hc:(o.after.toList.any fun e=>decide (e.on=i) && Region.binds .any e)=true:=by injection hc
  obtain⟨e,he,h2⟩:=List.any_eq_true.1 hc;rw[av,decide_eq_true_iff]at h2;obtain⟨rfl,h3⟩:=h2;exact h j o ho e cD h3 hi
theorem rgE{P:Program}{ops:Array Oper}{Q:Exit->Act->World->Prop}{id:Nat}{a:Act}{w:World}(S:List Nat){mk:(Nat->Value)->Act}
  (φ:Nat->Value->World->Prop) (R:(Nat->Bool)->(Nat->Value)->World->Prop)
  (h0:R (fun _=>false) (fun i=>a.tmps.toList.getD (S.getD i 0) undef) w.drew)
  (hstep:Aq (fun i o=>∀(l:Nat->Bool) u w,l i=false->(∀e∈o.after,Region.binds .any e=true->l e.on=true/\φ e.on (u e.on) w)->R l u w ->
   (∀j,l j=false->u j=a.tmps.toList.getD (S.getD j 0) undef)->(∀(j:Nat) (o:Oper),ops[j]?=some o->∀e∈o.after,Region.binds .any e=true->l e.on=false->l j=false) ->
   ∀K:Act->World->Prop,(∀v w' a',φ i v w'->True->R (fun j=>if j=i then true else l j) (fun j=>if j=i then v else u j) w'->a'=(mk u).put o.dst v->K a' w') ->
    if Region.wanted o (yielded ops (mk u).tmps)=true then Oper.wp P o (mk u) w K Q else K ((mk u).put o.dst undef) w) 0 ops.toList)
  (hdone:∀(l:Nat->Bool) u w,(∀i,i<ops.size->l i=true)->(∀i,i<ops.size->φ i (u i) w)->R l u w->Q .normal (mk u) w)
  (hc:(P.follows .mixedOrders && (List.range ops.size).all (fun i=>((ops[i]?).map fun o=>o.after.all fun e=>!Region.binds .any e || decide (e.on<i)).getD true) && Fi a.tmps.size ops.toList S)=true:=by kernel_rfl) (hst:∀w w':World,True->∀i v,φ i v w->φ i v w':=by exact fun _ _ _ _ _ h=>h) (hmk:∀u,Bj a S u=mk u:=by intro u;dsimp only[Bj,Bb,List.set,am,Nat.reduceAdd]):(Code.region id ops true).wp P Q a w:=
 have h1:=Bool.and_eq_true_iff.1 hc;have h2:=Bool.and_eq_true_iff.1 h1.1;Ba S h2.1 h2.2 h1.2 hmk φ R (fun _ _=>True) hst h0 hstep hdone
theorem N7{P:Program}{ops:Array Oper}{Q:Exit->Act->World->Prop}{id:Nat}{a:Act}{w:World}(S:List Nat){mk:(Nat->Value)->Act}
  (φ:Nat->Value->World->Prop) (R:(Nat->Bool)->(Nat->Value)->World->Prop)
  (h0:R (fun _=>false) (fun i=>a.tmps.toList.getD (S.getD i 0) undef) w.drew)
  (hstep:Aq (fun i o=>∀(l:Nat->Bool) u w,l i=false->(∀e∈o.after,Region.binds .any e=true->l e.on=true/\φ e.on (u e.on) w)->Hid (R l u w)->Hid (∀(j:Nat) (o:Oper),ops[j]?=some o->∀e∈o.after,Region.binds .any e=true->l e.on=false->l j=false) ->
   ∀K:Act->World->Prop,(∀v w' a',φ i v w'->True->R (fun j=>if j=i then true else l j) (fun j=>if j=i then v else u j) w'->a'=(mk u).put o.dst v->K a' w') ->
    if Region.wanted o (yielded ops (mk u).tmps)=true then Oper.wp P o (mk u) w K Q else K ((mk u).put o.dst undef) w) 0 ops.toList)
  (hdone:∀(l:Nat->Bool) u w,(∀i,i<ops.size->l i=true)->(∀i,i<ops.size->φ i (u i) w)->R l u w->Q .normal (mk u) w)
  (hc:(P.follows .mixedOrders && (List.range ops.size).all (fun i=>((ops[i]?).map fun o=>o.after.all fun e=>!Region.binds .any e || decide (e.on<i)).getD true) && Fi a.tmps.size ops.toList S)=true:=by kernel_rfl) (hst:∀w w':World,True->∀i v,φ i v w->φ i v w':=by exact fun _ _ _ _ _ h=>h) (hmk:∀u,Bj a S u=mk u:=by intro u;dsimp only[Bj,Bb,List.set,am,Nat.reduceAdd]):(Code.region id ops true).wp P Q a w:=
 have h1:=Bool.and_eq_true_iff.1 hc;have h2:=Bool.and_eq_true_iff.1 h1.1;Ba S h2.1 h2.2 h1.2 hmk φ R (fun _ _=>True) hst h0 (fun i o ho l u w h1 h2 hR _ hd=>hstep i o ho l u w h1 h2 hR hd) hdone
theorem Mj{a b:Bool}(h:a=false->b=false)(l:b=true):a=true:=by
 cases a with
 |true=>rfl
 |false=>rw[h rfl]at l;cases l
def D8:List (Value->Prop)->Nat->Value->Prop
 |[],_,_=>True
 |p::_,0,v=>p v
 |_::ps,n+1,v=>D8 ps n v
def Qbu:List (Value->Prop)->Nat->(Nat->Value)->Prop
 |[],_,_=>True
 |p::ps,i,u=>p (u i)/\Qbu ps (i+1) u
theorem Qa7:∀(ps:List (Value->Prop)) (i:Nat) (u:Nat->Value),(∀j,j<ps.length->D8 ps j (u (i+j)))->Qbu ps i u
 |[],_,_,_=>Ab
 |p::ps,i,u,h=>⟨h 0 (by simp),Qa7 ps (i+1) u fun j hj=>by
  have:=h (j+1) (by simp;omega)
  rwa [show i+(j+1)=i+1+j by omega]at this⟩
theorem Zf:∀(ps qs:List (Value->Prop)) (j:Nat) (v:Value),j<ps.length->D8 (ps++qs) j v=D8 ps j v
 |[],_,_,_,h=>by simp at h
 |p::ps,_,0,_,_=>rfl
 |p::ps,qs,j+1,v,h=>Zf ps qs j v (by simpa using h)
theorem Zb:∀(ps:List (Value->Prop)) (p:Value->Prop) (v:Value),D8 (ps++[p]) ps.length v=p v
 |[],_,_=>rfl
 |_::ps,p,v=>Zb ps p v
def Qgi(ops:Array Oper)(j i:Nat):Bool:=((ops[j]?).map fun o=>o.after.toList.any fun e=>decide (e.on=i) && Region.binds .any e).getD false
section
variable {P:Program} {ops:Array Oper} {Q:Exit->Act->World->Prop} {a:Act} {mk:(Nat->Value)->Act} {R:(Nat->Bool)->(Nat->Value)->World->Prop} {G:World->Prop}
def Dx:List Oper->List Nat
 |[]=>[]
 |o::os=>(match o.dst with|some d=>d|none=>100000+os.length)::Dx os
def St(P:Program)(ops:Array Oper)(Q:Exit->Act->World->Prop)(a:Act)(mk:(Nat->Value)->Act)(R:(Nat->Bool)->(Nat->Value)->World->Prop)(G:World->Prop)(i:Nat)(o:Oper)(ps:List (Value->Prop))(p:Value->Prop):Prop:=
 ∀(l:Nat->Bool) (u:Nat->Value) (W:World),l i=false->(∀e∈o.after,Region.binds .any e=true->l e.on=true/\D8 ps e.on (u e.on))->Hid (R l u W)->G W->Hid (∀j,Qgi ops j i=true->l j=false/\u j=a.tmps.toList.getD ((Dx ops.toList).getD j 0) undef) ->
  ∀K:Act->World->Prop,(∀v w' a',p v->R (fun j=>if j=i then true else l j) (fun j=>if j=i then v else u j) w'->a'=(mk u).put o.dst v->K a' w') ->
   if Region.wanted o (yielded ops (mk u).tmps)=true then Oper.wp P o (mk u) W K Q else K ((mk u).put o.dst undef) W
def Sq(P:Program)(ops:Array Oper)(Q:Exit->Act->World->Prop)(a:Act)(mk:(Nat->Value)->Act)(R:(Nat->Bool)->(Nat->Value)->World->Prop)(G:World->Prop):List Oper->Nat->List (Value->Prop)->Prop
 |[],n,ps=>∀l u W,(∀i,i<n->l i=true)->Qbu ps 0 u->R l u W->Q .normal (mk u) W
 |o::os,i,ps=>∃p,St P ops Q a mk R G i o ps p/\Sq P ops Q a mk R G os (i+1) (ps++[p])
theorem Sq.all:∀(os:List Oper) (i:Nat) (ps:List (Value->Prop)),ps.length=i->Sq P ops Q a mk R G os i ps ->
  ∃qs:List (Value->Prop),qs.length=os.length/\(∀j o,os[j]?=some o->St P ops Q a mk R G (i+j) o ((ps++qs).take (i+j)) (D8 (ps++qs) (i+j)))/\∀l u W,(∀j,j<i+os.length->l j=true)->Qbu (ps++qs) 0 u->R l u W->Q .normal (mk u) W
 |[],i,ps,hl,h=>⟨[],rfl,by simp,by simpa [Sq]using h⟩
 |o::os,i,ps,hl,⟨p,h1,h2⟩=>by
  obtain⟨qs,e,h3,h4⟩:=Sq.all os (i+1) (ps++[p]) (by simp[hl]) h2
  refine⟨p::qs,by simp[e],fun j o' ho=>?_,fun l u W hl'=>?_⟩
  ·cases j with
   |zero=>
    simp at ho
    subst ho
    have e1:(ps++p::qs).take (i+0)=ps:=by rw[Nat.add_zero,<-hl];simp
    have e2:D8 (ps++p::qs) (i+0)=p:=by
     funext v
     rw[Nat.add_zero,show ps++p::qs=(ps++[p])++qs by simp,Zf _ _ _ _ (by simp;omega),<-hl,Zb]
    rw[e1,e2]
    exact h1
   |succ j=>
    simp at ho
    have:=h3 j o' ho
    rw[List.append_assoc,List.singleton_append,show i+1+j=i+(j+1)by omega]at this
    exact this
  have:=h4 l u W fun j hj=>hl' j (by simp only[List.length_cons];omega)
  rwa [List.append_assoc,List.singleton_append]at this
theorem T7:∀(ps:List (Value->Prop)) (i j:Nat) (v:Value),j<i->D8 (ps.take i) j v=D8 ps j v
 |[],_,_,_,_=>by simp
 |p::ps,0,_,_,h=>absurd h (by omega)
 |p::ps,i+1,0,_,_=>rfl
 |p::ps,i+1,j+1,v,h=>T7 ps i j v (by omega)
theorem rgF{id:Nat}{w:World}(R:(Nat->Bool)->(Nat->Value)->World->Prop)(G:World->Prop)(hG:∀l u W,R l u W->G W)(h0:R (fun _=>false) (fun i=>a.tmps.toList.getD ((Dx ops.toList).getD i 0) undef) w.drew)(h:Sq P ops Q a mk R G ops.toList 0 [])
  (hc:(P.follows .mixedOrders && (List.range ops.size).all (fun i=>((ops[i]?).map fun o=>o.after.all fun e=>!Region.binds .any e || decide (e.on<i)).getD true) && Fi a.tmps.size ops.toList (Dx ops.toList))=true:=by kernel_rfl)
  (hmk:∀u,Bj a (Dx ops.toList) u=mk u:=by intro u;dsimp only[Bj,Dx,Bb,List.set,Nat.zero_add,Nat.reduceAdd,List.length_cons,List.length_nil]):(Code.region id ops true).wp P Q a w:=by
 have h1:=Bool.and_eq_true_iff.1 hc
 have h2:=Bool.and_eq_true_iff.1 h1.1
 obtain⟨qs,e,h3,h4⟩:=Sq.all ops.toList 0 [] rfl h
 rw[List.nil_append]at h3 h4
 have hac:=h2.2
 refine Ba (Dx ops.toList) h2.1 hac h1.2 hmk (fun i v _=>D8 qs i v) R (fun _ _=>True) (fun _ _ _ _ _ h=>h) h0 ?_ ?_
 ·intro i o ho l u W hl hp hF hun hdep K hK
  simp only[Nat.zero_add]at *
  have hs:=h3 i o ho
  refine hs l u W hl (fun e he hb=>⟨(hp e he hb).1,?_⟩) hF (hG l u W hF) (fun j hj=>?_) K fun v w' a' hv hF' ha=>hK v w' a' hv Ab hF' ha
  ·have ho':ops[i]?=some o:=by simpa using ho
   have hlt:i<ops.size:=(Array.getElem?_eq_some_iff.1 ho').1
   have hh:=List.all_eq_true.1 hac i (List.mem_range.2 hlt)
   rw[ho']at hh
   have h5:=Array.all_eq_true_iff_forall_mem.1 hh e he
   have h6:e.on<i:=by simpa [hb]using h5
   rw[T7 _ _ _ _ h6]
   exact(hp e he hb).2
  unfold Qgi at hj
  cases hjo:ops[j]? with
  |none=>rw[hjo]at hj;cases hj
  |some o'=>
   rw[hjo]at hj
   simp only[Option.map_some,Option.getD_some]at hj
   obtain⟨e,he,h5⟩:=List.any_eq_true.1 hj
   rw[Bool.and_eq_true,decide_eq_true_iff]at h5
   obtain⟨rfl,h6⟩:=h5
   have:=hdep j o' hjo e (by simpa using he) h6 hl
   exact⟨this,hun j this⟩
 intro l u W hl hφ hF
 exact h4 l u W (fun j hj=>hl j (by rw[<-Array.length_toList];omega)) (Qa7 _ _ _ fun j hj=>by rw[Nat.zero_add];exact hφ j (by rw[<-Array.length_toList];omega)) hF
def Fj(w W:World):Prop:=∀b o k,b<w.heap.size->W.cell? ⟨b,o,k⟩=w.cell? ⟨b,o,k⟩
theorem Gq{w W:World}(h:Below w.heap.size w W):Fj w W:=fun b o k hb=>h.cell (p:=⟨b,o,k⟩) hb
theorem rgB{id:Nat}{w:World}(h:Sq P ops Q a mk (fun _ _=>Below w.heap.size w) (Fj w) ops.toList 0 [])
  (hc:(P.follows .mixedOrders && (List.range ops.size).all (fun i=>((ops[i]?).map fun o=>o.after.all fun e=>!Region.binds .any e || decide (e.on<i)).getD true) && Fi a.tmps.size ops.toList (Dx ops.toList))=true:=by kernel_rfl)
  (hmk:∀u,Bj a (Dx ops.toList) u=mk u:=by intro u;dsimp only[Bj,Dx,Bb,List.set,Nat.zero_add,Nat.reduceAdd,List.length_cons,List.length_nil]):(Code.region id ops true).wp P Q a w:=
 rgF (fun _ _=>Below w.heap.size w) (Fj w) (fun _ _ _ h=>Gq h) (At _ _).drew h hc hmk
theorem rgD{id:Nat}{w:World}(h:Sq P ops Q a mk (fun _ _ W=>∃k,W=w.drewN k) (fun W=>∀p,W.cell? p=w.cell? p) ops.toList 0 [])
  (hc:(P.follows .mixedOrders && (List.range ops.size).all (fun i=>((ops[i]?).map fun o=>o.after.all fun e=>!Region.binds .any e || decide (e.on<i)).getD true) && Fi a.tmps.size ops.toList (Dx ops.toList))=true:=by kernel_rfl)
  (hmk:∀u,Bj a (Dx ops.toList) u=mk u:=by intro u;dsimp only[Bj,Dx,Bb,List.set,Nat.zero_add,Nat.reduceAdd,List.length_cons,List.length_nil]):(Code.region id ops true).wp P Q a w:=
 rgF (fun _ _ W=>∃k,W=w.drewN k) (fun W=>∀p,W.cell? p=w.cell? p) (fun _ _ W h p=>by obtain⟨k,rfl⟩:=h;rfl) ⟨1,rfl⟩ h hc hmk
section
variable {o:Oper} {os:List Oper} {i:Nat} {ps:List (Value->Prop)} {v:Value}
theorem sq(k:Sq P ops Q a mk R G os (i+1) (ps++[fun x=>x=v]))(h:St P ops Q a mk R G i o ps (fun x=>x=v):=by
  intro l u W hl hp hF hG hi K hK
  first|unfold Fj at hG|skip
  first|(simp[Region.binds,D8]at hp;done)|simp[Region.binds,D8]at hp|clear hp
  go_simp
  exact hK _ _ _ rfl hF.o (by first|rfl|(simp[Act.put,hp];done)|(simp[Act.put,hp];exact rfl))):Sq P ops Q a mk R G (o::os) i ps:=⟨_,h,k⟩
theorem sqI(J:Nat)(k:Sq P ops Q a mk R G os (i+1) (ps++[fun x=>x=v]))(h:∀j,j=J->St P ops Q a mk R G i o ps (fun x=>x=v):=by
  intro j hj l u W hl hp hF hG hi K hK
  have hq:=(hi.o j (by rw[hj];rfl)).2
  rw[hj]at hq
  simp[Dx]at hq
  first|unfold Fj at hG|skip
  first|(simp[Region.binds,D8]at hp;done)|simp[Region.binds,D8]at hp|clear hp
  go_simp
  exact hK _ _ _ rfl hF.o (by first|rfl|(simp[Act.put,hq];done)|(simp[Act.put,hq];exact rfl)|(simp[Act.put,hp,hq];done)|(simp[Act.put,hp,hq];exact rfl))):Sq P ops Q a mk R G (o::os) i ps:=⟨_,h J rfl,k⟩
theorem sqD{C:World->Prop}{w:World}(X:∀W,(∃k,W=w.drewN k)->C W)(k:Sq P ops Q a mk (fun _ _ W=>∃k,W=w.drewN k) G os (i+1) (ps++[fun x=>x=v]))(h:(∀W,(∃k,W=w.drewN k)->C W)->St P ops Q a mk (fun _ _ W=>∃k,W=w.drewN k) G i o ps (fun x=>x=v):=by
  intro X l u W hl hp hF hG hi K hK
  have HX:=X W hF.o
  first|(simp[Region.binds,D8]at hp;done)|simp[Region.binds,D8]at hp|clear hp
  go_simp
  refine HX.mono ?_
  rintro e w' ⟨rfl,k',rfl⟩
  obtain⟨k,rfl⟩:=hF.o
  exact hK _ _ _ rfl ⟨k+k',by simp[World.drewN,Nat.add_assoc]⟩ (by first|rfl|(simp[Act.put,hp];done)|(simp[Act.put,hp];exact rfl))):Sq P ops Q a mk (fun _ _ W=>∃k,W=w.drewN k) G (o::os) i ps:=⟨_,h X,k⟩
theorem Qf(p:Value->Prop)(h:St P ops Q a mk R G i o ps p)(k:Sq P ops Q a mk R G os (i+1) (ps++[p])):Sq P ops Q a mk R G (o::os) i ps:=⟨_,h,k⟩
theorem dnB{b:Act}{F:World->Prop}(h:∀W,Hid (F W)->Q .normal b W)(e:∀u,Qbu ps 0 u->mk u=b:=by
  intro u h
  simp only[Qbu,List.nil_append,List.cons_append,Nat.zero_add,Nat.reduceAdd]at h
  simp only[h]
  exact rfl):Sq P ops Q a mk (fun _ _=>F) G [] i ps:=fun l u W hl hu hF=>by rw[e u hu];exact h W hF
end
end
theorem Au{B:Nat}{w w':World}{b o:Nat}{cs:List Value}(h:w.rangeAt b o cs)(hb:b<B)(hw:Below B w w'):w'.rangeAt b o cs:=fun j v hv=>(hw.cell (p:=⟨b,o+j,none⟩) hb).trans (h j v hv)
theorem Ar{B:Nat}{w w':World}{b o n:Nat}(h:w.there b o n)(hb:b<B)(hw:Below B w w'):w'.there b o n:=fun j hj=>by
 rw[hw.cell (p:=⟨b,o+j,none⟩) hb,hw.frozen (p:=⟨b,o+j,none⟩) hb];exact h j hj
theorem Fh{w w':World}{b o:Nat}{cs:List Value}{row:Option Nat}(h:w.rangeAt b o cs)(hg:w.grownBy w' row)(hne:some b≠row):w'.rangeAt b o cs:=fun j v hv=>hg.cell (h j v hv) hne
theorem Fv{w w':World}{b o n:Nat}{row:Option Nat}(h:w.there b o n)(hg:w.grownBy w' row)(hb:b<w.heap.size)(hne:some b≠row):w'.there b o n:=fun j hj=>by
 rw[hg.cell_far ⟨b,o+j,none⟩ hb hne,hg.frozen_far ⟨b,o+j,none⟩ hb hne];exact h j hj
theorem Ja{w:World}{b o n:Nat}(h:w.there b o n)(p m:Nat)(h1:o<=p)(h2:p+m<=o+n):w.there b p m:=fun j hj=>by
 have:=h (p+j - o) aG;rwa [show o+(p+j - o)=p+j by omega]at this
theorem Cg(w:World)(cs:List Value)(t:TypeId):(w.alloc (.cells cs.toArray t)).rangeAt w 0 cs:=fun j v hv=>by
 rw[World.cell?_alloc_new];simpa using hv
theorem Cq(w:World)(cs:List Value)(t:TypeId):(w.alloc (.cells cs.toArray t)).there w 0 cs.length:=fun j hj=>by
 refine⟨?_,by simp⟩;rw[World.cell?_alloc_new];simp;omega
theorem Ah{B:Nat}{a:World}(b:Nat)(hb:B<=b):∀(vs:List Value) (o:Nat) (w:World),Below B a w->Below B a (w.setCells b o vs)
 |[],_,_,h=>h
 |v::r,o,w,h=>Ah b hb r (o+1) _ (h.setCell hb v)
theorem Cr(b:Nat):∀(vs:List Value) (o:Nat) (w:World),(w.setCells b o vs).heap.size=w.heap.size
 |[],_,_=>rfl
 |v::r,o,w=>by rw[World.setCells,Cr b r];simp
theorem Ac{w:World}{b o:Nat}{cs:List Value}(h:w.rangeAt b o cs)(j:Nat){v:Value}(hv:cs[j]?=some v):w.cell? ⟨b,o+j,none⟩=some v:=h j v hv
theorem Xb{w:World}{b o:Nat}(l1 l2 l3:List Value)(h:w.rangeAt b o (l1++(l2++l3))):w.rangeAt b (o+l1.length) l2:=fun j v hv=>by
 have hj:=(List.getElem?_eq_some_iff.1 hv).1;rw[Nat.add_assoc];exact h _ v (by rw[List.getElem?_append_right aG,Nat.add_sub_cancel_left,List.getElem?_append_left hj];exact hv)
theorem Cp{w:World}{b:Nat}(l1 l2 l3 l2':List Value)(h:w.rangeAt b 0 (l1++(l2++l3)))(hl:l2'.length=l2.length):(w.setCells b l1.length l2').rangeAt b 0 (l1++(l2'++l3)):=fun j v hv=>by
 have hjl:j<l1.length+(l2'.length+l3.length):=by
  have:=(List.getElem?_eq_some_iff.1 hv).1;simpa using this
 have hsome:∀i,i<l2'.length->(w.cell? ⟨b,l1.length+i,none⟩).isSome=true:=fun i hi=>by
  have e:(l1++(l2++l3))[l1.length+i]?=some (l2[i]' aG):=by
   rw[List.getElem?_append_right aG,List.getElem?_append_left aG,Nat.add_sub_cancel_left,List.getElem?_eq_getElem aG]
  have:=h _ _ e;rw[am]at this;rw[this];rfl
 rw[am];rcases aF j l1.length with h1|h1
 ·rw[World.cell?_setCells_out b l2' l1.length w ⟨b,j,none⟩ (fun _ _=>.inl h1)];rw[List.getElem?_append_left h1]at hv;have:=h j v (by rw[List.getElem?_append_left h1];exact hv);rwa [am]at this
 rw[List.getElem?_append_right h1]at hv;rcases aF (j - l1.length) l2'.length with h2|h2
 ·rw[List.getElem?_append_left h2,List.getElem?_eq_getElem h2]at hv;have:=World.cell?_setCells_in b l2' l1.length w hsome (j - l1.length) h2;rw[show l1.length+(j - l1.length)=j by omega]at this;rw[this];exact hv
 rw[World.cell?_setCells_out b l2' l1.length w ⟨b,j,none⟩ (fun _ _=>.inr (by show l1.length+l2'.length<=j;omega))];rw[List.getElem?_append_right h2]at hv;have:=h j v (by rw[List.getElem?_append_right h1,List.getElem?_append_right aG,<-hl];exact hv);rwa [am]at this
section
variable {P:Program}
theorem Ad{ops:Array Oper}{rest:List Oper}{op:Oper}{a:Act}{w:World}{Q:Exit->Act->World->Prop}(hgd:op.guard=none)(ty:TypeId)(x y:Operand)(ho:op.op=.store ty x y)
  (b o:Nat) (cs:List Value) (hx:a.eval x=.pointer (some ⟨b,o,none⟩)) (hy:a.eval y=.agg cs.toArray)
  (ht:w.there b o cs.length) (hi:(P.info? ty).map (·.size)=some cs.length) (h1:∀v∈cs,v.oneCell'=true)
  (h:∀w',Hid (w'=w.setCells b o cs)->wpList P ops Q rest (a.put op.dst undef) w'):wpList P ops Q (op::rest) a w:=
 wpList_store_mid hgd ty x y ho b o cs.toArray hx hy dB (by simpa using hi) (all_oneCell_toArray h1) (h _ rfl)
theorem An{fn:Func}{p q:Tmp}{ty:TypeId}(h:fn.results=#[.cell p ty,.tmp q])(tmps:Array Value)(w:World)(b:Nat)(cs:List Value)(d:TypeDesc)(x:Value)
  (hp:tmps.getD p undef=b) (hq:tmps.getD q undef=x) (hc:w.rangeAt b 0 cs) (hu:P.underlying ty=some d) (hd:d.isRow=true) (hi:(P.info? ty).map (·.size)=some cs.length):
  (results fn tmps).run P w=.ok (.tuple #[.agg cs.toArray,x]) w:=by
 have hp':tmps[p]?.getD undef=b:=dT;have hq':tmps[q]?.getD undef=x:=by simpa using hq
 simp[results,h,hp',hq',asAddr,run_loadVar_mid w b 0 ty cs d hc hu hd hi]
theorem Ez{fn:Func}{r p q:Tmp}{ty:TypeId}(h:fn.results=#[.tmp r,.cell p ty,.tmp q])(tmps:Array Value)(w:World)(b:Nat)(cs:List Value)(d:TypeDesc)(y x:Value)
  (hr:tmps.getD r undef=y) (hp:tmps.getD p undef=b) (hq:tmps.getD q undef=x) (hc:w.rangeAt b 0 cs) (hu:P.underlying ty=some d) (hd:d.isRow=true) (hi:(P.info? ty).map (·.size)=some cs.length):
  (results fn tmps).run P w=.ok (.tuple #[y,.agg cs.toArray,x]) w:=by
 have hp':tmps[p]?.getD undef=b:=dT;have hq':tmps[q]?.getD undef=x:=by simpa using hq
 have hr':tmps[r]?.getD undef=y:=dA;simp[results,h,hp',hq',hr',asAddr,run_loadVar_mid w b 0 ty cs d hc hu hd hi]
end
inductive Vl where
 |mk (what:UInt8) (text:List UInt8) (tag:Nat) (kids:List Vl)
def Vl.what:Vl->UInt8|.mk w _ _ _=>w
def Vl.text:Vl->List UInt8|.mk _ t _ _=>t
def Vl.tag:Vl->Nat|.mk _ _ g _=>g
def Vl.kids:Vl->List Vl|.mk _ _ _ k=>k
def H9(w:UInt8)(tx:List UInt8)(tg:Nat)(ps:List (List UInt8)):List UInt8:=
 if w=116 then 39::(tx++[39])
 else if w=91 then 91::(Ap 44 ps++[93])
 else if w=63 then(match ps with|[]=>[45]|_=>43::Ap 44 ps)
 else if w=61 then Aw tg++61::Ap 44 ps
 else if w=82 then 123::(Ap 44 ps++[125])
 else if w=85 then 60::(Aw tg++61::(Ap 44 ps++[62]))
 else if w=69 then 35::Aw tg
 else tx
mutual
def Bh:Vl->List UInt8
 |.mk w tx tg ks=>H9 w tx tg (D7 ks)
def D7:List Vl->List (List UInt8)
 |[]=>[]
 |x::xs=>Bh x::D7 xs
end
theorem Pq:∀ks:List Vl,D7 ks=ks.map Bh
 |[]=>rfl
 |x::xs=>by rw[D7,Pq xs];rfl
mutual
def Jy:Vl->Nat
 |.mk w _ _ ks=>if w=61 then Fx ks else Fx ks+1
def Fx:List Vl->Nat
 |[]=>0
 |x::xs=>max (Jy x) (Fx xs)
end
theorem Ri:∀(ks:List Vl) (d:Nat),Fx ks<=d↔∀x∈ks,Jy x<=d
 |[],d=>by simp[Fx]
 |x::xs,d=>by rw[Fx,Nat.max_le,Ri xs d];simp
def D4:List UInt8:=[121,101,115]
def Kw:List UInt8:=[110,111]
def Dm(p:Fd × Vl):Vl:=.mk 61 [] p.1.tag [p.2]
inductive My(S:List Ty):Nat->Kd->Vl->Prop
 |n {d:Nat} {k:Kd} {m:Nat} (hs:k.signs=[]) (hb:k.base=[110]) (h:m<=999999):My S (d+1) k (.mk 110 (Aw m) 0 [])
 |t {d:Nat} {k:Kd} {s:List UInt8} (hs:k.signs=[]) (hb:k.base=[116]) (h:C7 s=true):My S (d+1) k (.mk 116 s 0 [])
 |f {d:Nat} {k:Kd} {b:Bool} (hs:k.signs=[]) (hb:k.base=[102]):My S (d+1) k (.mk 102 (if b then D4 else Kw) 0 [])
 |lst {d:Nat} {k:Kd} {r:List UInt8} {ks:List Vl} (hs:k.signs=91::r) (hl:ks.length<=20) (h:∀x∈ks,My S d k.part x):My S (d+1) k (.mk 91 [] 0 ks)
 |non {d:Nat} {k:Kd} {r:List UInt8} (hs:k.signs=63::r):My S (d+1) k (.mk 63 [] 0 [])
 |som {d:Nat} {k:Kd} {r:List UInt8} {x:Vl} (hs:k.signs=63::r) (h:My S d k.part x):My S (d+1) k (.mk 63 [] 0 [x])
 |enm {d:Nat} {k:Kd} {t:Ty} {f:Fd} (hs:k.signs=[]) (hb:k.base=[64]) (ht:By S k.name=some t) (h9:t.sort=69) (hf:Bc t.fields f.tag=some f):My S (d+1) k (.mk 69 [] f.tag [])
 |uni {d:Nat} {k:Kd} {t:Ty} {f:Fd} {x:Vl} (hs:k.signs=[]) (hb:k.base=[64]) (ht:By S k.name=some t) (h5:t.sort=85) (hf:Bc t.fields f.tag=some f) (h:My S d f.kind x):My S (d+1) k (.mk 85 [] f.tag [x])
 |rcd {d:Nat} {k:Kd} {t:Ty} {fs:List (Fd × Vl)} (hs:k.signs=[]) (hb:k.base=[64]) (ht:By S k.name=some t) (h2:t.sort=82) (hf:∀p∈fs,Bc t.fields p.1.tag=some p.1) (h:∀p∈fs,My S d p.1.kind p.2)
   (hn:∀p∈fs,Bh p.2≠P1 S p.1) (hp:fs.Pairwise fun p q=>p.1.tag<q.1.tag):My S (d+1) k (.mk 82 [] 0 (fs.map Dm))
theorem Qdd(p:Fd × Vl):Jy (Dm p)=Jy p.2:=by simp[Dm,Jy,Fx]
theorem Gd(S:List Ty):∀(n:Nat) (k:Kd) (v:Vl),My S n k v->∀d,My S d k v↔Jy v<=d:=by
 intro n;induction n with
 |zero=>intro k v h;cases h
 |succ n ih=>
  intro k v h d;cases d with
  |zero=>
   constructor
   ·intro h;cases h
   intro hd;cases h<;>simp[Jy]at hd
  |succ d=>
   cases h with
   |n hs hb h=>exact⟨fun _=>by simp[Jy,Fx],fun _=>.n hs hb h⟩
   |t hs hb h=>exact⟨fun _=>by simp[Jy,Fx],fun _=>.t hs hb h⟩
   |f hs hb=>exact⟨fun _=>by simp[Jy,Fx],fun _=>.f hs hb⟩
   |non hs=>exact⟨fun _=>by simp[Jy,Fx],fun _=>.non hs⟩
   |enm hs hb ht h9 hf=>exact⟨fun _=>by simp[Jy,Fx],fun _=>.enm hs hb ht h9 hf⟩
   |@lst _ _ r ks hs hl h=>
    have e:Jy (.mk 91 [] 0 ks)<=d+1↔∀x∈ks,Jy x<=d:=by rw[<-Ri];simp[Jy]
    rw[e];constructor
    ·intro hv x hx;cases hv with
     |lst _ _ h2=>exact(ih _ _ (h x hx) d).1 (h2 x hx)
    intro hv;exact .lst hs hl fun x hx=>(ih _ _ (h x hx) d).2 (hv x hx)
   |@som _ _ r x hs h=>
    have e:Jy (.mk 63 [] 0 [x])<=d+1↔Jy x<=d:=by simp[Jy,Fx]
    rw[e];constructor
    ·intro hv;cases hv with
     |som _ h2=>exact(ih _ _ h d).1 h2
    intro hv;exact .som hs ((ih _ _ h d).2 hv)
   |@uni _ _ t f x hs hb ht h5 hf h=>
    have e:Jy (.mk 85 [] f.tag [x])<=d+1↔Jy x<=d:=by simp[Jy,Fx]
    rw[e];constructor
    ·intro hv;generalize hg:f.tag=g at hv;cases hv with
     |uni hs2 hb2 ht2 h52 hf2 h2=>
      rw[ht]at ht2;injection ht2 with ht2;subst ht2;rw[<-hg,hf]at hf2;injection hf2 with hf2;subst hf2;exact(ih _ _ h d).1 h2
    intro hv;exact .uni hs hb ht h5 hf ((ih _ _ h d).2 hv)
   |@rcd _ _ t fs hs hb ht h2 hf h hn hp=>
    have e:Jy (.mk 82 [] 0 (fs.map Dm))<=d+1↔∀p∈fs,Jy p.2<=d:=by
     have:Jy (.mk 82 [] 0 (fs.map Dm))=Fx (fs.map Dm)+1:=by simp[Jy]
     rw[this,Nat.succ_le_succ_iff,Ri];constructor
     ·intro h p hp;have:=h _ (ao hp);rwa [Qdd]at this
     intro h x hx;obtain⟨p,hp,rfl⟩:=aw.1 hx;rw[Qdd];exact h p hp
    rw[e];constructor
    ·intro hv p hp;generalize hg:fs.map Dm=ks at hv;cases hv with
     |@rcd _ _ t2 fs2 hs2 hb2 ht2 h22 hf2 h2 hn2 hp2=>
      rw[ht]at ht2;injection ht2 with ht2;subst ht2;have hm:Dm p∈fs2.map Dm:=hg ▸ ao hp;obtain⟨q,hq,eq⟩:=aw.1 hm;have e1:q.1.tag=p.1.tag:=by injection eq
      have e2:q.2=p.2:=by injection eq with _ _ _ e4;injection e4
      have e3:q.1=p.1:=by have:=hf2 q hq;rw[e1,hf p hp]at this;injection this with this;exact this.symm
      have:=h2 q hq;rw[e2,e3]at this;exact(ih _ _ (h p hp) d).1 this
    intro hv;exact .rcd hs hb ht h2 hf (fun p hp=>(ih _ _ (h p hp) d).2 (hv p hp)) hn hp
def Pc(s:List UInt8):Option (Nat × List UInt8):=match Cc (s.takeWhile Az)with
 |some n=>some (n,s.dropWhile Az)
 |none=>none
def E0(fs:List Fd)(s:List UInt8):Option (Fd × List UInt8):=match Pc s with
 |some (n,r)=>if n<=200 then(match Bc fs n with|some f=>some (f,r)|none=>none)else none
 |none=>none
def Al(c:UInt8):List UInt8->Option (List UInt8)
 |x::r=>if x=c then some r else none
 |[]=>none
def Ki(s:List UInt8):Option (List UInt8 × List UInt8):=match Al 39 s with
 |none=>none
 |some r=>match Al 39 (r.dropWhile Bv)with
  |none=>none
  |some q=>if (r.takeWhile Bv).length<=12 then some (r.takeWhile Bv,q)else none
def Ep:List UInt8->List UInt8->Option (List UInt8)
 |[],s=>some s
 |c::p,s=>match Al c s with|none=>none|some r=>Ep p r
def Mp(s:List UInt8):Option (Bool × List UInt8):=match Ep D4 s with
 |some r=>some (true,r)
 |none=>match Ep Kw s with|some r=>some (false,r)|none=>none
def Cl(K:List UInt8->Option (Vl × List UInt8)):Nat->List UInt8->Option (List Vl × List UInt8)
 |0,_=>none
 |m+1,s=>match K s with
  |none=>none
  |some (v,r)=>match Al 44 r with
   |some q=>(match Cl K m q with|some (vs,z)=>some (v::vs,z)|none=>none)
   |none=>match Al 93 r with|some q=>some ([v],q)|none=>none
def Q7(K:List UInt8->Option (Vl × List UInt8))(m:Nat)(s:List UInt8):Option (Vl × List UInt8):=match Al 91 s with
 |none=>none
 |some r=>match Al 93 r with
  |some q=>some (.mk 91 [] 0 [],q)
  |none=>match Cl K m r with|some (vs,q)=>if vs.length<=20 then some (.mk 91 [] 0 vs,q)else none|none=>none
def Yh(K:List UInt8->Option (Vl × List UInt8))(s:List UInt8):Option (Vl × List UInt8):=match Al 45 s with
 |some q=>some (.mk 63 [] 0 [],q)
 |none=>match Al 43 s with
  |none=>none
  |some r=>match K r with|some (v,q)=>some (.mk 63 [] 0 [v],q)|none=>none
def Cn(K:Kd->List UInt8->Option (Vl × List UInt8))(fs:List Fd)(s:List UInt8):Option ((Fd × Vl) × List UInt8):=match E0 fs s with
 |none=>none
 |some (f,r)=>match Al 61 r with
  |none=>none
  |some q=>match K f.kind q with|some (v,z)=>some ((f,v),z)|none=>none
def Dg(S:List Ty)(K:Kd->List UInt8->Option (Vl × List UInt8))(fs:List Fd):Nat->Nat->List UInt8->Option (List (Fd × Vl) × List UInt8)
 |0,_,_=>none
 |m+1,last,s=>match Cn K fs s with
  |none=>none
  |some (p,r)=>if p.1.tag<=last\/Bh p.2=P1 S p.1 then none else match Al 44 r with
   |some q=>(match Dg S K fs m p.1.tag q with|some (ps,z)=>some (p::ps,z)|none=>none)
   |none=>match Al 125 r with|some q=>some ([p],q)|none=>none
def Ha(S:List Ty)(K:Kd->List UInt8->Option (Vl × List UInt8))(t:Ty)(s:List UInt8):Option (Vl × List UInt8):=
 if t.sort=69 then(match Al 35 s with
  |none=>none
  |some r=>match E0 t.fields r with|some (f,q)=>some (.mk 69 [] f.tag [],q)|none=>none)
 else if t.sort=85 then(match Al 60 s with
  |none=>none
  |some r=>match Cn K t.fields r with
   |none=>none
   |some (p,q)=>match Al 62 q with|some z=>some (.mk 85 [] p.1.tag [p.2],z)|none=>none)
 else match Al 123 s with
  |none=>none
  |some r=>match Al 125 r with
   |some q=>some (.mk 82 [] 0 [],q)
   |none=>match Dg S K t.fields 201 0 r with|some (ps,q)=>some (.mk 82 [] 0 (ps.map Dm),q)|none=>none
def Aj(S:List Ty)(m:Nat):Nat->Kd->List UInt8->Option (Vl × List UInt8)
 |0,_,_=>none
 |d+1,k,s=>match k.signs with
  |c::_=>if c=91 then Q7 (Aj S m d k.part) m s else Yh (Aj S m d k.part) s
  |[]=>
   if k.base=[110]then(match Pc s with|some (n,r)=>some (.mk 110 (Aw n) 0 [],r)|none=>none)
   else if k.base=[116]then(match Ki s with|some (x,r)=>some (.mk 116 x 0 [],r)|none=>none)
   else if k.base=[102]then(match Mp s with|some (b,r)=>some (.mk 102 (if b then D4 else Kw) 0 [],r)|none=>none)
   else match By S k.name with
    |none=>none
    |some t=>Ha S (Aj S m d) t s
theorem Bx{c:UInt8}{s r:List UInt8}:Al c s=some r↔s=c::r:=by
 cases s with
 |nil=>simp[Al]
 |cons x t=>
  by_cases h:x=c
  ·subst h;simp[Al]
  simp[Al,h]
theorem Bg(c:UInt8)(r:List UInt8):Al c (c::r)=some r:=if_pos rfl
theorem C5{c x:UInt8}(h:x≠c)(r:List UInt8):Al c (x::r)=none:=if_neg h
theorem Ey{p s r:List UInt8}:Ep p s=some r↔s=p++r:=by
 induction p generalizing s with
 |nil=>simp[Ep]
 |cons c p ih=>
  unfold Ep;cases h:Al c s with
  |none=>
   simp only[false_iff,reduceCtorEq];intro e;subst e;rw[au,Bg]at h;cases h
  |some q=>rw[Bx]at h;subst h;simp[ih]
def Nn(r:List UInt8):Prop:=∀c t,r=c::t->Az c=false
theorem Ku:Nn []:=by intro c t h;cases h
theorem Gk{c:UInt8}(r:List UInt8)(h:Az c=false):Nn (c::r):=by intro x t e;injection e with e;subst e;exact h
theorem Qbx{a r:List UInt8}(ha:a.all Az=true)(hr:Nn r):(a++r).takeWhile Az=a/\(a++r).dropWhile Az=r:=by
 cases r with
 |nil=>
  rw[List.append_nil];induction a with
  |nil=>exact⟨rfl,rfl⟩
  |cons c a ih=>
   rw[List.all_cons,av]at ha;obtain⟨i1,i2⟩:=ih ha.2;rw[List.takeWhile_cons_of_pos ha.1,List.dropWhile_cons_of_pos ha.1,i1,i2];exact gL
 |cons c t=>exact El ha ⟨c,t,rfl,hr c t rfl⟩
theorem To{s r:List UInt8}{n:Nat}(h:Pc s=some (n,r)):n<=999999/\s=Aw n++r/\Nn r:=by
 unfold Pc at h;cases hd:Cc (s.takeWhile Az)with
 |none=>rw[hd]at h;cases h
 |some m=>
  rw[hd]at h;simp only[aj,aD]at h;obtain⟨rfl,rfl⟩:=h;obtain⟨h1,h2⟩:=Bt.1 hd;refine⟨h1,by rw[<-h2,List.takeWhile_append_dropWhile],fun c t e=>?_⟩;have:=List.head?_dropWhile_not Az s;rw[e]at this;simpa using this
theorem Yj{n:Nat}{r:List UInt8}(h:n<=999999)(hr:Nn r):Pc (Aw n++r)=some (n,r):=by
 obtain⟨e1,e2⟩:=Qbx (Kr n) hr;unfold Pc;rw[e1,e2,Bt.2 ⟨h,rfl⟩]
theorem Cb{fs:List Fd}{n:Nat}{f:Fd}(h:Bc fs n=some f):f.tag=n/\f∈fs:=by
 unfold Bc at h;have:=List.find?_some h;exact⟨by simpa using this,List.mem_of_find?_eq_some h⟩
theorem Gu{fs:List Fd}{s r:List UInt8}{f:Fd}(h:E0 fs s=some (f,r)):f.tag<=200/\Bc fs f.tag=some f/\s=Aw f.tag++r/\Nn r:=by
 unfold E0 at h;cases hn:Pc s with
 |none=>rw[hn]at h;cases h
 |some q=>
  obtain⟨n,z⟩:=q;rw[hn]at h;simp only at h;split at h
  ·rename_i h2;cases hf:Bc fs n with
   |none=>rw[hf]at h;cases h
   |some g=>
    rw[hf]at h;simp only[aj,aD]at h;obtain⟨rfl,rfl⟩:=h;have e:=(Cb hf).1;obtain⟨_,e2,e3⟩:=To hn;rw[e];exact⟨h2,hf,e2,e3⟩
  cases h
theorem Zm{fs:List Fd}{f:Fd}{r:List UInt8}(h:f.tag<=200)(hf:Bc fs f.tag=some f)(hr:Nn r):E0 fs (Aw f.tag++r)=some (f,r):=by
 unfold E0;rw[Yj aG hr];simp[h,hf]
theorem Xz:Bv 39=false:=aJ
theorem T9{s b r:List UInt8}:Ki s=some (b,r)↔C7 b=true/\s=39::(b++39::r):=by
 unfold Ki;cases h:Al 39 s with
 |none=>
  simp only[reduceCtorEq,false_iff,not_and];rintro _ rfl;rw[Bg]at h;cases h
 |some q=>
  rw[Bx]at h;subst h;simp only[List.cons.injEq,true_and];cases h:Al 39 (q.dropWhile Bv)with
  |none=>
   simp only[reduceCtorEq,false_iff,not_and];rintro hb rfl;have hb2:b.all Bv=true:=by unfold C7 at hb;simp only[av]at hb;exact hb.2
   rw[(El hb2 ⟨39,r,rfl,Xz⟩).2,Bg]at h;cases h
  |some z=>
   rw[Bx]at h;have eq:q=q.takeWhile Bv++39::z:=by rw[<-h,List.takeWhile_append_dropWhile]
   simp only;constructor
   ·intro h2;split at h2
    ·rename_i hl;simp only[aj,aD]at h2;obtain⟨rfl,rfl⟩:=h2;exact⟨by unfold C7;simp only[av];exact⟨by simpa using hl,Gx q⟩,eq⟩
    cases h2
   rintro⟨hb,rfl⟩;unfold C7 at hb;simp only[av,decide_eq_true_eq]at hb;obtain⟨e1,e2⟩:=El hb.2 ⟨39,r,rfl,Xz⟩;rw[e2]at h;injection h with _ h;subst h;rw[e1,if_pos hb.1]
theorem Rm{s r:List UInt8}{b:Bool}:Mp s=some (b,r)↔s=(if b then D4 else Kw)++r:=by
 unfold Mp;cases h:Ep D4 s with
 |some q=>
  rw[Ey]at h;subst h;cases b<;>simp[D4,Kw]
 |none=>
  simp only;cases h2:Ep Kw s with
  |some q=>
   rw[Ey]at h2;subst h2;cases b<;>simp[D4,Kw]
  |none=>
   simp only[reduceCtorEq,false_iff];rintro rfl;cases b
   ·rw[show Ep Kw ((if false=true then D4 else Kw)++r)=some r from Ey.2 rfl]at h2;cases h2
   rw[show Ep D4 ((if true=true then D4 else Kw)++r)=some r from Ey.2 rfl]at h;cases h
end Go.Proofs.YtpjijpcemejlnaaGreatDoor
