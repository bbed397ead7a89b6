/- Texts joined. Conditions: as each theorem names them. -/
import Derived.Maps.OwnSet
import Derived.Maps.OwnOps
import Derived.StringKeys
import Derived.Shelf.Strings.SlTrimAscii
import Derived.Shelf.Strings.Prefix
import Derived.Shelf.Strings.Search3
import Derived.Shelf.Strings.Count
import Derived.Shelf.Strings.OnBuilder
import Derived.Test.YtkigmebejmmikaaGreatDoorProg
import Derived.Lib.IndexLaws
import Derived.Deep.RegionWith
import Derived.Deep.MidRow
import Derived.Deep.AppendLies
import Derived.Test.YtkigmebejmmikaaGreatDoorQ01
import Derived.Test.YtkigmebejmmikaaGreatDoorQ02
set_option maxRecDepth 100000
set_option maxHeartbeats 32000000
set_option linter.unusedVariables false
set_option linter.unusedSimpArgs false
namespace Go.Proofs.YtkigmebejmmikaaGreatDoor
open Go.RowKit Go.Proofs.Tryz
theorem Bh.ownK{w:World}{base k:Nat}{e:TypeId}{v:Value}{n:Nat}{xs:List Value}(h:w.ownsRow base e k v n xs)(hle:n*k<=maxLen):∃A c,v=.slice A n c/\Bh w A (n*k) xs:=by
 have h1:=h.1
 rcases h.2 with⟨rfl,rfl⟩|⟨g,cap,cur,rfl,hb,hh,hnc,hcm,hcs,htk⟩
 ·exact⟨none,0,rfl,by omega,by omega,fun h=>absurd h (by omega)⟩
 refine⟨some ⟨g,0,none⟩,cap,rfl,by omega,hle,fun hn=>⟨g,0,rfl,(h.lt g rfl).2,fun j u hu=>?_⟩⟩
 have:=h.cells (g:=g) rfl j u hu
 have e1:(⟨g,0,none⟩:Addr).add j=⟨g,0+j,none⟩:=by unfold Addr.add;split<;>simp_all
 rwa [e1]at this
section
variable {P:Program}
theorem Zh(w:World){ops:Array Oper}{rest:List Oper}{o:Oper}{a:Act}{Q:Exit->Act->World->Prop}(hgd:o.guard=none)(s x:Operand)(t:TypeId)
  (ho:o.op=.call {callee:=.builtin .append,args:=#[s,x],argTypes:=#[t,t]})
  (base:Nat) (e:TypeId) (z:Value) (k bytes:Nat) (ht:P.underlying t=some (.slice e)) (hinfo:(P.info? e).map (fun i=>(i.zero,i.size,i.bytes))=some (some z,k,bytes))
  (hzs:z.cells.size=k) (hk:0<k) (W:World) (us:List Value) (hul:us.length=k) (hw:w=W.alloc (.cells us.toArray e)) (hu:∀u∈us,u.oneCell'=true) (v:Value) (n:Nat) (xs:List Value) (hs:a.eval s=v) (hx:a.eval x=.slice (some ⟨W.heap.size,0,none⟩) 1 1)
  (hown:W.ownsRow base e k v n xs)
  (h63:n+1<=maxLen) (hbytes:(n+1)*bytes<=140737488355328) (hbase:base<=W.heap.size)
  (h:∀v' w',w'.ownsRow base e k v' (n+1) (xs++us)->Below base W w'->wpList P ops Q rest (a.put o.dst v') w'):wpList P ops Q (o::rest) a w:=by
 subst hw
 obtain⟨i0,hi,hz0,hz1,hz2⟩:=info_parts hinfo
 refine wpList_append_own _ hgd s x t ho base e i0 z k bytes ht hi hz0 hz1 hz2 hzs hk v n xs hs (hown.alloc _) ⟨W.heap.size,0,none⟩ 1 1 us hx (by omega) ?_ hu h63 hbytes ?_ ?_
 ·intro j y hj
  have e1:(⟨W.heap.size,0,none⟩:Addr).add j=⟨W.heap.size,j,none⟩:=by unfold Addr.add;split<;>simp_all
  rw[e1,World.cell?_alloc_new]
  simpa using hj
 ·have:(W.alloc (.cells us.toArray e)).heap.size=W.heap.size+1:=by simp
  omega
 intro v' w' h1 h2 _
 exact h v' w' h1 (((As base W).alloc hbase _).grown h2 (by simp;omega) (fun k hk=>(hown.lt k hk).1))
end
theorem Qie:(prog.info? 118).map (fun i=>(i.zero,i.size,i.bytes))=some (some sf0,4,56):=by kernel_rfl
theorem Tryz.infoSt:(prog.info? 95).map (fun i=>(i.zero,i.size,i.bytes))=some (some (.agg #[.int .u8 0,.string ⟨#[]⟩,.slice none 0 0]),3,48):=by kernel_rfl
section
open Go.Maps (Keyed)
def M8(v:Value):Option (DataW Value × List MemPlace):=some (.held v,[])
def Di(P:Program)(k:TypeId)(z:Value)(w:World)(b n:Nat)(F:Lit->Value):Prop:=
 ∃D:DataW Value,w.ownsMap P k M8 b n D/\Go.Maps.IsMap D/\∀l,WideAt.IsKeyLit l->D.atKey l (.held z)=.held (F l)
section
variable {P:Program} {k:TypeId} {z:Value} {w w':World} {b n:Nat} {F:Lit->Value}
theorem Di.made(w:World)(P:Program)(k:TypeId)(z:Value):Di P k z (w.alloc (.map #[] 0)) w.heap.size 0 (fun _=>z):=
 ⟨.map [],World.ownsMap_made w P k M8,Go.Maps.isMap_empty,fun l _=>rfl⟩
theorem Di.lt(h:Di P k z w b n F):b<w.heap.size:=by
 obtain⟨D,h1,_⟩:=h
 exact h1.lt
theorem Di.kept{row:Option Nat}(h:Di P k z w b n F)(hg:w.grownBy w' row)(hne:some b≠row):Di P k z w' b n F:=by
 obtain⟨D,h1,h2⟩:=h
 exact⟨D,h1.kept hg hne,h2⟩
theorem Di.below(h:Di P k z w b n F)(hb:Below w.heap.size w w'):Di P k z w' b n F:=
 h.kept (row:=none) ⟨hb.os,hb.tape,hb.output,hb.size,fun k hk _=>hb.block k hk⟩ (by simp)
theorem Di.belowAt{B:Nat}(h:Di P k z w b n F)(hlt:b<B)(hb:Below B w w'):Di P k z w' b n F:=by
 obtain⟨D,⟨es,clock,h1,h2,h3,h4⟩,h5⟩:=h
 exact⟨D,⟨es,clock,(hb.block b hlt).trans h1,h2,h3,h4⟩,h5⟩
theorem Di.alloc(h:Di P k z w b n F)(o:Obj):Di P k z (w.alloc o) b n F:=h.below ((As _ _).alloc (Ap _) o)
theorem Di.drew(h:Di P k z w b n F):Di P k z w.drew b n F:=h
theorem Di.mono(h:Di P k z w b n F){n':Nat}(hn:n<=n'):Di P k z w b n' F:=by
 obtain⟨D,h1,h2⟩:=h
 exact⟨D,h1.mono hn,h2⟩
theorem Di.of_eq{G:Lit->Value}(h:Di P k z w b n F)(e:∀l,WideAt.IsKeyLit l->F l=G l):Di P k z w b n G:=by
 obtain⟨D,h1,h2,h3⟩:=h
 exact⟨D,h1,h2,fun l hl=>by rw[h3 l hl,e l hl]⟩
theorem Di.lookup{t e:TypeId}(h:Di P k z w b n F)(K:Keyed P k)(ht:P.underlying t=some (.map k e))(hz:(zeroValue e).run P w=.ok z w){key:Value}{kl:Lit}(hkey:keyOf P k key=some kl):
  (Instr.lookup t (.map (some b)) key false).run P w=.ok (F kl) w:=by
 obtain⟨D,h1,h2,h3⟩:=h
 obtain⟨v,ps,hrun,hv⟩:=h1.lookup K ht hz (show M8 z=some (.held z,[])from rfl) hkey
 rw[h3 kl (K.key hkey)]at hv
 simp only[M8,Option.some.injEq,Prod.mk.injEq,DataW.held.injEq]at hv
 rw[hrun,hv.1]
theorem Di.store{t e:TypeId}(h:Di P k z w b n F)(K:Keyed P k)(ht:P.underlying t=some (.map k e))(hn:n<maxLen){key:Value}(val:Value){kl:Lit}(hkey:keyOf P k key=some kl):
  ∃w',(Instr.mapUpdate t (.map (some b)) key val).run P w=.ok () w'/\Di P k z w' b (n+1) (fun l=>if l.sameKey kl=true then val else F l)/\w.grownBy w' (some b):=by
 obtain⟨D,h1,h2,h3⟩:=h
 obtain⟨w',hrun,r1,r2⟩:=h1.update K ht hn hkey (show M8 val=some (.held val,[])from rfl)
 refine⟨w',hrun,⟨_,r1,h2.put _ _,fun l hl=>?_⟩,r2⟩
 by_cases e:l=kl
 ·subst e
  rw[Go.Maps.atKey_put_same h2 hl];simp[WideAt.sameKey_self hl]
 rw[Go.Maps.atKey_put_other e,h3 l hl];simp[show l.sameKey kl=false from Go.Maps.sameKey_ne e]
end
end
end Go.Proofs.YtkigmebejmmikaaGreatDoor
namespace Go.Proofs
open Go.Shelf
def Tryz.lays160_ren:Go.Shelf.Ren:=⟨fun|160=>128|232=>159|231=>122|227=>123|234=>160|233=>124|236=>161|235=>125|228=>156|271=>177|151=>158|197=>157|120=>185|152=>176|260=>175|137=>183|119=>184|224=>170|225=>169|217=>168|266=>179|n=>n,fun|9=>9|4=>4|3=>3|5=>5|117=>169|116=>168|0=>0|124=>172|21=>21|105=>194|46=>159|119=>212|139=>215|138=>214|n=>n,fun|3=>1|4=>2|n=>n⟩
theorem Tryz.lays160:Go.Proofs.Lays.n160 Tryz.prog Tryz.lays160_ren:={
 mixed:=by kernel_rfl
 f119:=Tryz.func184.trans (congrArg some (by kernel_rfl))
 f120:=Tryz.func185.trans (congrArg some (by kernel_rfl))
 f137:=Tryz.func183.trans (congrArg some (by kernel_rfl))
 f151:=Tryz.func158.trans (congrArg some (by kernel_rfl))
 f152:=Tryz.func176.trans (congrArg some (by kernel_rfl))
 f160:=Tryz.func128.trans (congrArg some (by kernel_rfl))
 f197:=Tryz.func157.trans (congrArg some (by kernel_rfl))
 f217:=Tryz.func168.trans (congrArg some (by kernel_rfl))
 f224:=Tryz.func170.trans (congrArg some (by kernel_rfl))
 f225:=Tryz.func169.trans (congrArg some (by kernel_rfl))
 f227:=Tryz.func123.trans (congrArg some (by kernel_rfl))
 f228:=Tryz.func156.trans (congrArg some (by kernel_rfl))
 f231:=Tryz.func122.trans (congrArg some (by kernel_rfl))
 f232:=Tryz.func159.trans (congrArg some (by kernel_rfl))
 f233:=Tryz.func124.trans (congrArg some (by kernel_rfl))
 f234:=Tryz.func160.trans (congrArg some (by kernel_rfl))
 f235:=Tryz.func125.trans (congrArg some (by kernel_rfl))
 f236:=Tryz.func161.trans (congrArg some (by kernel_rfl))
 f260:=Tryz.func175.trans (congrArg some (by kernel_rfl))
 f266:=Tryz.func179.trans (congrArg some (by kernel_rfl))
 f271:=Tryz.func177.trans (congrArg some (by kernel_rfl))
 t0:=Tryz.underlying0
 a0:=Tryz.isAgg0
 z0:=Tryz.sizeOf0
 v0:=Tryz.zeroValue0
 t3:=Tryz.underlying3
 a3:=Tryz.isAgg3
 z3:=Tryz.sizeOf3
 v3:=Tryz.zeroValue3
 t4:=Tryz.underlying4
 a4:=Tryz.isAgg4
 z4:=Tryz.sizeOf4
 v4:=Tryz.zeroValue4
 t5:=Tryz.underlying5
 a5:=Tryz.isAgg5
 z5:=Tryz.sizeOf5
 v5:=Tryz.zeroValue5
 t9:=Tryz.underlying9
 a9:=Tryz.isAgg9
 z9:=Tryz.sizeOf9
 v9:=Tryz.zeroValue9
 t21:=Tryz.underlying21
 a21:=Tryz.isAgg21
 z21:=Tryz.sizeOf21
 v21:=Tryz.zeroValue21
 t46:=Tryz.underlying159
 a46:=Tryz.isAgg159
 z46:=Tryz.sizeOf159
 v46:=Tryz.zeroValue159
 t105:=Tryz.underlying194
 a105:=Tryz.isAgg194
 z105:=Tryz.sizeOf194
 v105:=Tryz.zeroValue194
 t116:=Tryz.underlying168
 a116:=Tryz.isAgg168
 z116:=Tryz.sizeOf168
 t117:=Tryz.underlying169
 a117:=Tryz.isAgg169
 z117:=Tryz.sizeOf169
 v117:=Tryz.zeroValue169
 t119:=Tryz.underlying212
 a119:=Tryz.isAgg212
 z119:=Tryz.sizeOf212
 t124:=Tryz.underlying172
 a124:=Tryz.isAgg172
 z124:=Tryz.sizeOf172
 v124:=Tryz.zeroValue172
 t138:=Tryz.underlying214
 a138:=Tryz.isAgg214
 z138:=Tryz.sizeOf214
 v138:=Tryz.zeroValue214
 t139:=Tryz.underlying215
 a139:=Tryz.isAgg215
 z139:=Tryz.sizeOf215
 v139:=Tryz.zeroValue215
 g3:=by kernel_rfl
 g4:=by kernel_rfl}
def Tryz.lays161_ren:Go.Shelf.Ren:=⟨fun|161=>92|231=>122|227=>123|233=>124|235=>125|228=>156|197=>157|151=>158|260=>175|152=>176|137=>183|119=>184|224=>170|225=>169|217=>168|266=>179|n=>n,fun|9=>9|4=>4|3=>3|5=>5|117=>169|116=>168|0=>0|124=>172|105=>194|21=>21|119=>212|46=>159|139=>215|138=>214|n=>n,fun|3=>1|4=>2|n=>n⟩
theorem Tryz.lays161:Go.Proofs.Lays.n161 Tryz.prog Tryz.lays161_ren:={
 mixed:=by kernel_rfl
 f119:=Tryz.func184.trans (congrArg some (by kernel_rfl))
 f137:=Tryz.func183.trans (congrArg some (by kernel_rfl))
 f151:=Tryz.func158.trans (congrArg some (by kernel_rfl))
 f152:=Tryz.func176.trans (congrArg some (by kernel_rfl))
 f161:=Tryz.func92.trans (congrArg some (by kernel_rfl))
 f197:=Tryz.func157.trans (congrArg some (by kernel_rfl))
 f217:=Tryz.func168.trans (congrArg some (by kernel_rfl))
 f224:=Tryz.func170.trans (congrArg some (by kernel_rfl))
 f225:=Tryz.func169.trans (congrArg some (by kernel_rfl))
 f227:=Tryz.func123.trans (congrArg some (by kernel_rfl))
 f228:=Tryz.func156.trans (congrArg some (by kernel_rfl))
 f231:=Tryz.func122.trans (congrArg some (by kernel_rfl))
 f233:=Tryz.func124.trans (congrArg some (by kernel_rfl))
 f235:=Tryz.func125.trans (congrArg some (by kernel_rfl))
 f260:=Tryz.func175.trans (congrArg some (by kernel_rfl))
 f266:=Tryz.func179.trans (congrArg some (by kernel_rfl))
 t0:=Tryz.underlying0
 a0:=Tryz.isAgg0
 z0:=Tryz.sizeOf0
 v0:=Tryz.zeroValue0
 t3:=Tryz.underlying3
 a3:=Tryz.isAgg3
 z3:=Tryz.sizeOf3
 v3:=Tryz.zeroValue3
 t4:=Tryz.underlying4
 a4:=Tryz.isAgg4
 z4:=Tryz.sizeOf4
 v4:=Tryz.zeroValue4
 t5:=Tryz.underlying5
 a5:=Tryz.isAgg5
 z5:=Tryz.sizeOf5
 v5:=Tryz.zeroValue5
 t9:=Tryz.underlying9
 a9:=Tryz.isAgg9
 z9:=Tryz.sizeOf9
 v9:=Tryz.zeroValue9
 t21:=Tryz.underlying21
 a21:=Tryz.isAgg21
 z21:=Tryz.sizeOf21
 v21:=Tryz.zeroValue21
 t46:=Tryz.underlying159
 a46:=Tryz.isAgg159
 z46:=Tryz.sizeOf159
 v46:=Tryz.zeroValue159
 t105:=Tryz.underlying194
 a105:=Tryz.isAgg194
 z105:=Tryz.sizeOf194
 v105:=Tryz.zeroValue194
 t116:=Tryz.underlying168
 a116:=Tryz.isAgg168
 z116:=Tryz.sizeOf168
 t117:=Tryz.underlying169
 a117:=Tryz.isAgg169
 z117:=Tryz.sizeOf169
 v117:=Tryz.zeroValue169
 t119:=Tryz.underlying212
 a119:=Tryz.isAgg212
 z119:=Tryz.sizeOf212
 t124:=Tryz.underlying172
 a124:=Tryz.isAgg172
 z124:=Tryz.sizeOf172
 v124:=Tryz.zeroValue172
 t138:=Tryz.underlying214
 a138:=Tryz.isAgg214
 z138:=Tryz.sizeOf214
 v138:=Tryz.zeroValue214
 t139:=Tryz.underlying215
 a139:=Tryz.isAgg215
 z139:=Tryz.sizeOf215
 v139:=Tryz.zeroValue215
 g3:=by kernel_rfl
 g4:=by kernel_rfl}
def Tryz.lays99_ren:Go.Shelf.Ren:=⟨fun|99=>93|206=>126|n=>n,fun|9=>9|4=>4|3=>3|n=>n,fun|n=>n⟩
theorem Tryz.lays99:Go.Proofs.Lays.n99 Tryz.prog Tryz.lays99_ren:={
 mixed:=by kernel_rfl
 f99:=Tryz.func93.trans (congrArg some (by kernel_rfl))
 f206:=Tryz.func126.trans (congrArg some (by kernel_rfl))
 t3:=Tryz.underlying3
 a3:=Tryz.isAgg3
 z3:=Tryz.sizeOf3
 v3:=Tryz.zeroValue3
 t4:=Tryz.underlying4
 a4:=Tryz.isAgg4
 z4:=Tryz.sizeOf4
 v4:=Tryz.zeroValue4
 t9:=Tryz.underlying9
 a9:=Tryz.isAgg9
 z9:=Tryz.sizeOf9
 v9:=Tryz.zeroValue9}
def Tryz.lays100_ren:Go.Shelf.Ren:=⟨fun|100=>94|207=>127|n=>n,fun|9=>9|4=>4|3=>3|n=>n,fun|n=>n⟩
theorem Tryz.lays100:Go.Proofs.Lays.n100 Tryz.prog Tryz.lays100_ren:={
 mixed:=by kernel_rfl
 f100:=Tryz.func94.trans (congrArg some (by kernel_rfl))
 f207:=Tryz.func127.trans (congrArg some (by kernel_rfl))
 t3:=Tryz.underlying3
 a3:=Tryz.isAgg3
 z3:=Tryz.sizeOf3
 v3:=Tryz.zeroValue3
 t4:=Tryz.underlying4
 a4:=Tryz.isAgg4
 z4:=Tryz.sizeOf4
 v4:=Tryz.zeroValue4
 t9:=Tryz.underlying9
 a9:=Tryz.isAgg9
 z9:=Tryz.sizeOf9
 v9:=Tryz.zeroValue9}
def Tryz.lays143_ren:Go.Shelf.Ren:=⟨fun|143=>153|219=>152|217=>168|225=>169|224=>170|267=>171|266=>179|314=>180|n=>n,fun|9=>9|3=>3|4=>4|5=>5|46=>159|146=>210|51=>189|n=>n,fun|1=>0|n=>n⟩
theorem Tryz.lays143:Go.Proofs.Lays.n143 Tryz.prog Tryz.lays143_ren:={
 mixed:=by kernel_rfl
 f143:=Tryz.func153.trans (congrArg some (by kernel_rfl))
 f217:=Tryz.func168.trans (congrArg some (by kernel_rfl))
 f219:=Tryz.func152.trans (congrArg some (by kernel_rfl))
 f224:=Tryz.func170.trans (congrArg some (by kernel_rfl))
 f225:=Tryz.func169.trans (congrArg some (by kernel_rfl))
 f266:=Tryz.func179.trans (congrArg some (by kernel_rfl))
 f267:=Tryz.func171.trans (congrArg some (by kernel_rfl))
 f314:=Tryz.func180.trans (congrArg some (by kernel_rfl))
 t3:=Tryz.underlying3
 a3:=Tryz.isAgg3
 z3:=Tryz.sizeOf3
 v3:=Tryz.zeroValue3
 t4:=Tryz.underlying4
 a4:=Tryz.isAgg4
 z4:=Tryz.sizeOf4
 v4:=Tryz.zeroValue4
 t5:=Tryz.underlying5
 a5:=Tryz.isAgg5
 z5:=Tryz.sizeOf5
 v5:=Tryz.zeroValue5
 t9:=Tryz.underlying9
 a9:=Tryz.isAgg9
 z9:=Tryz.sizeOf9
 v9:=Tryz.zeroValue9
 t46:=Tryz.underlying159
 a46:=Tryz.isAgg159
 z46:=Tryz.sizeOf159
 v46:=Tryz.zeroValue159
 t51:=Tryz.underlying189
 a51:=Tryz.isAgg189
 z51:=Tryz.sizeOf189
 v51:=Tryz.zeroValue189
 t146:=Tryz.underlying210
 a146:=Tryz.isAgg210
 z146:=Tryz.sizeOf210
 v146:=Tryz.zeroValue210
 g1:=by kernel_rfl}
def Tryz.lays144_ren:Go.Shelf.Ren:=⟨fun|144=>119|143=>153|219=>152|217=>168|225=>169|224=>170|267=>171|266=>179|314=>180|n=>n,fun|9=>9|4=>4|3=>3|5=>5|46=>159|146=>210|51=>189|n=>n,fun|1=>0|n=>n⟩
theorem Tryz.lays144:Go.Proofs.Lays.n144 Tryz.prog Tryz.lays144_ren:={
 mixed:=by kernel_rfl
 f143:=Tryz.func153.trans (congrArg some (by kernel_rfl))
 f144:=Tryz.func119.trans (congrArg some (by kernel_rfl))
 f217:=Tryz.func168.trans (congrArg some (by kernel_rfl))
 f219:=Tryz.func152.trans (congrArg some (by kernel_rfl))
 f224:=Tryz.func170.trans (congrArg some (by kernel_rfl))
 f225:=Tryz.func169.trans (congrArg some (by kernel_rfl))
 f266:=Tryz.func179.trans (congrArg some (by kernel_rfl))
 f267:=Tryz.func171.trans (congrArg some (by kernel_rfl))
 f314:=Tryz.func180.trans (congrArg some (by kernel_rfl))
 t3:=Tryz.underlying3
 a3:=Tryz.isAgg3
 z3:=Tryz.sizeOf3
 v3:=Tryz.zeroValue3
 t4:=Tryz.underlying4
 a4:=Tryz.isAgg4
 z4:=Tryz.sizeOf4
 v4:=Tryz.zeroValue4
 t5:=Tryz.underlying5
 a5:=Tryz.isAgg5
 z5:=Tryz.sizeOf5
 v5:=Tryz.zeroValue5
 t9:=Tryz.underlying9
 a9:=Tryz.isAgg9
 z9:=Tryz.sizeOf9
 v9:=Tryz.zeroValue9
 t46:=Tryz.underlying159
 a46:=Tryz.isAgg159
 z46:=Tryz.sizeOf159
 v46:=Tryz.zeroValue159
 t51:=Tryz.underlying189
 a51:=Tryz.isAgg189
 z51:=Tryz.sizeOf189
 v51:=Tryz.zeroValue189
 t146:=Tryz.underlying210
 a146:=Tryz.isAgg210
 z146:=Tryz.sizeOf210
 v146:=Tryz.zeroValue210
 g1:=by kernel_rfl}
def Tryz.lays138_ren:Go.Shelf.Ren:=⟨fun|138=>173|195=>181|218=>182|143=>153|219=>152|217=>168|225=>169|224=>170|267=>171|266=>179|314=>180|n=>n,fun|9=>9|3=>3|4=>4|5=>5|0=>0|46=>159|146=>210|51=>189|n=>n,fun|1=>0|n=>n⟩
theorem Tryz.lays138:Go.Proofs.Lays.n138 Tryz.prog Tryz.lays138_ren:={
 mixed:=by kernel_rfl
 f138:=Tryz.func173.trans (congrArg some (by kernel_rfl))
 f143:=Tryz.func153.trans (congrArg some (by kernel_rfl))
 f195:=Tryz.func181.trans (congrArg some (by kernel_rfl))
 f217:=Tryz.func168.trans (congrArg some (by kernel_rfl))
 f218:=Tryz.func182.trans (congrArg some (by kernel_rfl))
 f219:=Tryz.func152.trans (congrArg some (by kernel_rfl))
 f224:=Tryz.func170.trans (congrArg some (by kernel_rfl))
 f225:=Tryz.func169.trans (congrArg some (by kernel_rfl))
 f266:=Tryz.func179.trans (congrArg some (by kernel_rfl))
 f267:=Tryz.func171.trans (congrArg some (by kernel_rfl))
 f314:=Tryz.func180.trans (congrArg some (by kernel_rfl))
 t0:=Tryz.underlying0
 a0:=Tryz.isAgg0
 z0:=Tryz.sizeOf0
 v0:=Tryz.zeroValue0
 t3:=Tryz.underlying3
 a3:=Tryz.isAgg3
 z3:=Tryz.sizeOf3
 v3:=Tryz.zeroValue3
 t4:=Tryz.underlying4
 a4:=Tryz.isAgg4
 z4:=Tryz.sizeOf4
 v4:=Tryz.zeroValue4
 t5:=Tryz.underlying5
 a5:=Tryz.isAgg5
 z5:=Tryz.sizeOf5
 v5:=Tryz.zeroValue5
 t9:=Tryz.underlying9
 a9:=Tryz.isAgg9
 z9:=Tryz.sizeOf9
 v9:=Tryz.zeroValue9
 t46:=Tryz.underlying159
 a46:=Tryz.isAgg159
 z46:=Tryz.sizeOf159
 v46:=Tryz.zeroValue159
 t51:=Tryz.underlying189
 a51:=Tryz.isAgg189
 z51:=Tryz.sizeOf189
 v51:=Tryz.zeroValue189
 t146:=Tryz.underlying210
 a146:=Tryz.isAgg210
 z146:=Tryz.sizeOf210
 v146:=Tryz.zeroValue210
 g1:=by kernel_rfl}
def Tryz.lays219_ren:Go.Shelf.Ren:=⟨fun|219=>152|217=>168|225=>169|224=>170|267=>171|266=>179|314=>180|n=>n,fun|9=>9|3=>3|4=>4|5=>5|46=>159|146=>210|51=>189|n=>n,fun|1=>0|n=>n⟩
theorem Tryz.lays219:Go.Proofs.Lays.n219 Tryz.prog Tryz.lays219_ren:={
 mixed:=by kernel_rfl
 f217:=Tryz.func168.trans (congrArg some (by kernel_rfl))
 f219:=Tryz.func152.trans (congrArg some (by kernel_rfl))
 f224:=Tryz.func170.trans (congrArg some (by kernel_rfl))
 f225:=Tryz.func169.trans (congrArg some (by kernel_rfl))
 f266:=Tryz.func179.trans (congrArg some (by kernel_rfl))
 f267:=Tryz.func171.trans (congrArg some (by kernel_rfl))
 f314:=Tryz.func180.trans (congrArg some (by kernel_rfl))
 t3:=Tryz.underlying3
 a3:=Tryz.isAgg3
 z3:=Tryz.sizeOf3
 v3:=Tryz.zeroValue3
 t4:=Tryz.underlying4
 a4:=Tryz.isAgg4
 z4:=Tryz.sizeOf4
 v4:=Tryz.zeroValue4
 t5:=Tryz.underlying5
 a5:=Tryz.isAgg5
 z5:=Tryz.sizeOf5
 v5:=Tryz.zeroValue5
 t9:=Tryz.underlying9
 a9:=Tryz.isAgg9
 z9:=Tryz.sizeOf9
 v9:=Tryz.zeroValue9
 t46:=Tryz.underlying159
 a46:=Tryz.isAgg159
 z46:=Tryz.sizeOf159
 v46:=Tryz.zeroValue159
 t51:=Tryz.underlying189
 a51:=Tryz.isAgg189
 z51:=Tryz.sizeOf189
 v51:=Tryz.zeroValue189
 t146:=Tryz.underlying210
 a146:=Tryz.isAgg210
 z146:=Tryz.sizeOf210
 v146:=Tryz.zeroValue210
 g1:=by kernel_rfl}
def Tryz.lays156_ren:Go.Shelf.Ren:=⟨fun|156=>37|165=>70|166=>71|169=>72|240=>109|241=>110|276=>138|277=>139|n=>n,fun|31=>63|9=>9|3=>3|4=>4|0=>0|20=>20|72=>125|76=>129|70=>123|37=>25|75=>128|127=>156|164=>178|5=>5|80=>51|n=>n,fun|n=>n⟩
theorem Tryz.lays156:Go.Proofs.Lays.n156 Tryz.prog Tryz.lays156_ren:={
 mixed:=by kernel_rfl
 f156:=Tryz.func37.trans (congrArg some (by kernel_rfl))
 f165:=Tryz.func70.trans (congrArg some (by kernel_rfl))
 f166:=Tryz.func71.trans (congrArg some (by kernel_rfl))
 f169:=Tryz.func72.trans (congrArg some (by kernel_rfl))
 f240:=Tryz.func109.trans (congrArg some (by kernel_rfl))
 f241:=Tryz.func110.trans (congrArg some (by kernel_rfl))
 f276:=Tryz.func138.trans (congrArg some (by kernel_rfl))
 f277:=Tryz.func139.trans (congrArg some (by kernel_rfl))
 t0:=Tryz.underlying0
 a0:=Tryz.isAgg0
 z0:=Tryz.sizeOf0
 v0:=Tryz.zeroValue0
 t3:=Tryz.underlying3
 a3:=Tryz.isAgg3
 z3:=Tryz.sizeOf3
 v3:=Tryz.zeroValue3
 t4:=Tryz.underlying4
 a4:=Tryz.isAgg4
 z4:=Tryz.sizeOf4
 v4:=Tryz.zeroValue4
 t9:=Tryz.underlying9
 a9:=Tryz.isAgg9
 z9:=Tryz.sizeOf9
 v9:=Tryz.zeroValue9
 t20:=Tryz.underlying20
 a20:=Tryz.isAgg20
 z20:=Tryz.sizeOf20
 v20:=Tryz.zeroValue20
 t31:=Tryz.underlying63
 a31:=Tryz.isAgg63
 z31:=Tryz.sizeOf63
 v31:=Tryz.zeroValue63
 t37:=Tryz.underlying25
 a37:=Tryz.isAgg25
 z37:=Tryz.sizeOf25
 v37:=Tryz.zeroValue25
 t70:=Tryz.underlying123
 a70:=Tryz.isAgg123
 z70:=Tryz.sizeOf123
 v70:=Tryz.zeroValue123
 t72:=Tryz.underlying125
 a72:=Tryz.isAgg125
 z72:=Tryz.sizeOf125
 v72:=Tryz.zeroValue125
 t75:=Tryz.underlying128
 a75:=Tryz.isAgg128
 z75:=Tryz.sizeOf128
 v75:=Tryz.zeroValue128
 t76:=Tryz.underlying129
 a76:=Tryz.isAgg129
 z76:=Tryz.sizeOf129
 v76:=Tryz.zeroValue129
 t127:=Tryz.underlying156
 a127:=Tryz.isAgg156
 z127:=Tryz.sizeOf156
 v127:=Tryz.zeroValue156
 t164:=Tryz.underlying178
 a164:=Tryz.isAgg178
 z164:=Tryz.sizeOf178
 v164:=Tryz.zeroValue178}
end Go.Proofs
namespace Go.Proofs.YtkigmebejmmikaaGreatDoor
open Go.RowKit Go.Proofs.Tryz
section
attribute [local go_sem] Qja Qit Qib Qgw ByteArray.mk_append_mk
theorem Ms(s cs:List UInt8)(w:World)(hcs:cs.length<4294967281)(ha:∀b∈cs,b.toNat<128):
  Calls prog 92 #[.string ⟨s.toArray⟩,.string ⟨cs.toArray⟩] w fun e w'=>e=.returned (.string ⟨(s.dropWhile (cs.contains ·)).toArray⟩)/\Below w.heap.size w w':=
 Any.strings_TrimLeft_laid Tryz.lays161 (by kernel_rfl) ⟨s.toArray⟩ ⟨cs.toArray⟩ w hcs (fun j b h=>ha b (List.mem_of_getElem? h))
theorem Kk{p:UInt8->Bool}:∀{l:List UInt8},l.dropWhile p=[]↔l.all p=true
 |[]=>by simp
 |x::l=>by
  have ih:=Kk (p:=p) (l:=l)
  by_cases h:p x=true
  ·simp only[List.dropWhile_cons,h,if_true,List.all_cons,Bool.true_and];exact ih
  simp[h]
theorem Qek{l cs:List UInt8}:Lib.trimS l cs=[]↔l.all (cs.contains ·)=true:=by
 unfold Lib.trimS Lib.trimLeftS Lib.trimRightS
 rw[Kk]
 have hsp:l.reverse.takeWhile (cs.contains ·)++l.reverse.dropWhile (cs.contains ·)=l.reverse:=List.takeWhile_append_dropWhile
 have htk:=Jd (p:=fun x=>cs.contains x) l.reverse
 constructor
 ·intro h
  rw[List.all_eq_true]at h htk ⊢
  intro x hx
  have hx':x∈l.reverse:=List.mem_reverse.2 hx
  rw[<-hsp]at hx'
  rcases List.mem_append.1 hx' with hx'|hx'
  ·exact htk x hx'
  exact h x (List.mem_reverse.2 hx')
 intro h
 rw[List.all_eq_true]at h ⊢
 intro x hx
 have hx':=List.mem_reverse.1 hx
 exact h x (List.mem_reverse.1 (by rw[<-hsp];exact List.mem_append_right _ hx'))
theorem Ze(s cs:List UInt8)(w:World)(hs:s.length<=9223372036854775807)(hcs:cs.length<4294967281)(ha:∀b∈cs,b.toNat<128):
  Calls prog 128 #[.string ⟨s.toArray⟩,.string ⟨cs.toArray⟩] w fun e w'=>(∃r:List UInt8,e=.returned (.string ⟨r.toArray⟩)/\(r=[]↔s.all (cs.contains ·)=true))/\Below w.heap.size w w':=
 (Any.strings_Trim_laid Tryz.lays160 (by kernel_rfl) ⟨s.toArray⟩ ⟨cs.toArray⟩ w hs hcs (fun j b h=>ha b (List.mem_of_getElem? h))).mono fun e w' ⟨h1,h2⟩=>⟨⟨_,h1,Qek⟩,h2⟩
theorem X9(s p:List UInt8):Lib.hasPrefix s p=p.isPrefixOf s:=by
 unfold Lib.hasPrefix
 first|rfl|simp
theorem Pi(s p:List UInt8)(w:World):
  Calls prog 93 #[.string ⟨s.toArray⟩,.string ⟨p.toArray⟩] w fun e w'=>e=.returned (.bool (p.isPrefixOf s))/\w=w':=
 (Any.strings_HasPrefix Tryz.lays99 ⟨s.toArray⟩ ⟨p.toArray⟩ w).mono fun e w' ⟨h1,h2⟩=>⟨by rw[h1,X9],h2.symm⟩
theorem Pg(s p:List UInt8)(w:World)(hs:s.length<=9223372036854775807):
  Calls prog 94 #[.string ⟨s.toArray⟩,.string ⟨p.toArray⟩] w fun e w'=>e=.returned (.bool (Lib.hasSuffix s p))/\w=w':=
 (Any.strings_HasSuffix Tryz.lays100 ⟨s.toArray⟩ ⟨p.toArray⟩ w hs).mono fun e w' ⟨h1,h2⟩=>⟨h1,h2.symm⟩
theorem Jj(s:List UInt8)(c:UInt8):(c∉s/\Lib.indexByte s c = -1)\/∃p t,s=p++c::t/\c∉p/\Lib.indexByte s c=(p.length:Int):=by
 induction s with
 |nil=>exact .inl ⟨by simp,rfl⟩
 |cons x s ih=>
  by_cases hx:x=c
  ·exact .inr ⟨[],s,by simp[hx],by simp,by simp[Lib.indexByte,hx]⟩
  have hb:(x == c)=false:=by simpa using hx
  rcases ih with⟨hn,e⟩|⟨p,t,es,hp,e⟩
  ·exact .inl ⟨by simp;exact⟨fun h=>hx h.symm,hn⟩,by simp[Lib.indexByte,hb,e]⟩
  refine .inr ⟨x::p,t,by simp[es],by simp;exact⟨fun h=>hx h.symm,hp⟩,?_⟩
  have:¬(p.length:Int) = -1:=by omega
  simp[Lib.indexByte,hb,e,this]
theorem Qd0(s:List UInt8)(c:UInt8)(w:World):
  Calls prog 153 #[.string ⟨s.toArray⟩,.string ⟨#[c]⟩] w fun e w'=>e=.returned (.int .i64 (Lib.indexByte s c))/\w=w':=
 (Any.strings_Index_one Tryz.lays143 ⟨s.toArray⟩ c w).mono fun e w' ⟨h1,h2⟩=>⟨h1,h2.symm⟩
theorem S1(s:List UInt8)(c:UInt8)(w:World):
  Calls prog 152 #[.string ⟨s.toArray⟩,.string ⟨#[c]⟩] w fun e w'=>e=.returned (.int .i64 (Lib.indexByte s c))/\w=w':=
 (Any.stringslite_Index_one Tryz.lays219 ⟨s.toArray⟩ c w).mono fun e w' ⟨h1,h2⟩=>⟨h1,h2.symm⟩
theorem Qd7(s:List UInt8)(c:UInt8)(w:World):
  Calls prog 173 #[.string ⟨s.toArray⟩,.string ⟨#[c]⟩] w fun e w'=>e=.returned (.int .i64 ((s.count c:Nat):Int))/\w=w':=
 (Any.strings_Count_one Tryz.lays138 ⟨s.toArray⟩ c w).mono fun e w' ⟨h1,h2⟩=>⟨h1,h2.symm⟩
theorem Mx(s:List UInt8)(c:UInt8)(w:World):
  Calls prog 119 #[.string ⟨s.toArray⟩,.string ⟨#[c]⟩] w fun e w'=>e=.returned (.bool (decide (c∈s)))/\w=w':=
 (Any.strings_Contains_one Tryz.lays144 ⟨s.toArray⟩ c w).mono fun e w' ⟨h1,h2⟩=>⟨by
  rw[h1]
  refine D4 (Ci ?_)
  show decide (0<=Lib.indexByte s c)=_
  rw[decide_eq_decide]
  rcases Jj s c with⟨hn,e⟩|⟨p,t,es,hp,e⟩
  ·rw[e];exact⟨fun h=>by omega,fun h=>absurd h hn⟩
  rw[e];exact⟨fun _=>by rw[es];simp,fun _=>by omega⟩,h2.symm⟩
def Zo(r:List UInt8 × List UInt8 × Bool):Value:=.tuple #[.string ⟨r.1.toArray⟩,.string ⟨r.2.1.toArray⟩,.bool r.2.2]
theorem Qev(s:List UInt8)(c:UInt8)(w:World)(hs:s.length<=4294967280):
  Calls prog 118 #[.string ⟨s.toArray⟩,.string ⟨#[c]⟩] w fun e w'=>e=.returned (Zo (Cs c s))/\∃k,w'=w.drewN k:=by
 rcases Jj s c with⟨hn,e⟩|⟨p,t,es,hp,e⟩
 ·have Hc:=Aa (N6 hn)
  have Hi:=Aa (fun W=>S1 s c W)
  rw[e]at Hi
  clear hn e
  go_enter func118,ntmps118
  go_wp2_with fail
  refine(Hi.o _).mono ?_
  rintro e w' ⟨rfl,rfl⟩
  go_wp2_with fail
  go_ret3
  exact⟨by rw[Hc.o];rfl,0,rfl⟩
 have Hc:=Aa (show Cs c s=(p,t,true)by rw[es];exact D2 hp)
 have Hi:=Aa (fun W=>S1 s c W)
 rw[e]at Hi
 have hl:s.length=p.length+1+t.length:=by rw[es];simp;omega
 have h1:s.take p.length=p:=by rw[es];simp
 have h2:s.drop (p.length+1)=t:=by
  rw[es,show p++c::t=(p++[c])++t by simp]
  exact List.drop_left' (by simp)
 have k1:IntKind.i64.wrap ((p.length:Int)+1)=(p.length:Int)+1:=IntWalk.i64_in _ (by omega)
 have k2:((p.length:Int)+1).toNat=p.length+1:=by omega
 have k3:(0:Int)<=(p.length:Int)+1:=by omega
 have k4:(p.length:Int)+1<=(s.length:Int):=by omega
 have k5:(p.length:Int)<=(s.length:Int):=by omega
 have k6:(0:Int)<=(p.length:Int):=by omega
 have H1:=Aa h1
 have H2:=Aa h2
 clear e es hl h1 h2 hp
 go_enter func118,ntmps118
 go_wp2_with fail
 refine(Hi.o _).mono ?_
 rintro e w' ⟨rfl,rfl⟩
 go_wp2_with fail
 go_quiet (fail)
 go_wp2
 go_ret3
 exact⟨by rw[Hc.o];exact Qjf (Qgj H1.o) (Qgj H2.o) rfl,_,rfl⟩
theorem Qh(s:List UInt8)(c:UInt8)(w:World)(hs:s.length<=4294967280):
  Calls prog 89 #[.string ⟨s.toArray⟩,.string ⟨#[c]⟩] w fun e w'=>e=.returned (Zo (Cs c s))/\∃k,w'=w.drewN k:=by
 go_enter func89,ntmps89
 go_wp2_with fail
 refine(Qev s c _ hs).mono ?_
 rintro e w' ⟨rfl,k,rfl⟩
 unfold Zo
 go_wp2_with fail
 go_ret3
 exact⟨rfl,k,rfl⟩
theorem P7(c:UInt8):∀s:List UInt8,(Af c s).length=s.count c+1
 |[]=>rfl
 |x::s=>by
  have ih:=P7 c s
  simp only[Af]
  by_cases h:x=c
  ·rw[if_pos h,h];simp[ih]
  rw[if_neg h]
  have e:List.count c (x::s)=List.count c s:=List.count_cons_of_ne h
  rw[e]
  cases hs:Af c s with
  |nil=>rw[hs]at ih;simp at ih
  |cons p ps=>rw[hs]at ih;simp at ih ⊢;exact ih
theorem Qgk(A B:List Value)(k:Nat)(x y:Value)(h:A.length=k):(A++x::B).set k y=A++y::B:=by
 subst h
 rw[List.set_append,if_neg (by omega)];simp
theorem Qai{w:World}{base k n g cap:Nat}{ps:List (List UInt8)}{ys:List Value}(h:w.ownsRow base 9 1 (.slice (some ⟨g,0,none⟩) n cap) n (Ae ps++ys))(hk:ps.length=k)(hlt:k<n)(s:List UInt8):
  ∃zs,(w.setCell ⟨g,k,none⟩ (.string ⟨s.toArray⟩)).ownsRow base 9 1 (.slice (some ⟨g,0,none⟩) n cap) n (Ae (ps++[s])++zs)/\w.grownBy (w.setCell ⟨g,k,none⟩ (.string ⟨s.toArray⟩)) (some g)/\w.frozen? ⟨g,k,none⟩=false/\∃u,w.cell? ⟨g,k,none⟩=some u:=by
 have hl:(Ae ps).length=k:=by simp[Ae,hk]
 have h1:=h.1
 rw[List.length_append,hl]at h1
 obtain⟨y,zs,rfl⟩:∃y zs,ys=y::zs:=by
  cases ys with
  |nil=>simp at h1;omega
  |cons y zs=>exact⟨y,zs,rfl⟩
 have hst:=h.stored k (.string ⟨s.toArray⟩)
 rw[Qgk _ _ _ _ _ hl]at hst
 have hc:=h.cellAt k (by omega)
 rw[List.getElem?_append_right (by omega),hl]at hc
 simp at hc
 exact⟨zs,by rw[Ni,List.append_assoc];exact hst.1,hst.2,h.frozenAt k,y,hc⟩
theorem Qhy{w:World}{base k n g cap:Nat}{ps:List (List UInt8)}{ys:List Value}(h:w.ownsRow base 9 1 (.slice (some ⟨g,0,none⟩) n cap) n (Ae ps++ys))(hk:ps.length=k)(hle:k<=n):
  w.ownsRow base 9 1 (.slice (some ⟨g,0,none⟩) k cap) k (Ae ps):=by
 rcases h.2 with⟨e,_⟩|⟨g',cap',cur,e,hb,hh,hnc,hcm,hcs,htk⟩
 ·cases e
 injection e with e1 e2 e3
 injection e1 with e1
 injection e1 with e1
 subst e1;subst e3
 refine⟨by simp[Ae,hk],.inr ⟨g,cap,cur,rfl,hb,hh,by omega,hcm,hcs,?_⟩⟩
 have hl:(Ae ps).length=k:=by simp[Ae,hk]
 have:(cur.toList.take (n*1)).take (k*1)=(Ae ps++ys).take (k*1):=by rw[htk]
 rw[List.take_take,Nat.min_eq_left (by omega)]at this
 rw[this,List.take_append_of_le_length (by omega),List.take_of_length_le (by omega)]
theorem Yx(s:List UInt8)(c:UInt8)(w:World)(hs:s.length<=4000000):
  Calls prog 154 #[.string ⟨s.toArray⟩,.string ⟨#[c]⟩,.int .i64 0,.int .i64 (-1)] w fun e w'=>
   ∃v,e=.returned v/\w'.ownsRow w.heap.size 9 1 v (Af c s).length (Ae (Af c s))/\Below w.heap.size w w':=by
 obtain⟨i0,hi,hz0,hz1,hz2⟩:=info_parts Dl
 have hcnt:s.count c<=s.length:=List.count_le_length
 have Hn:=Aa (P7 c s)
 have H0:=Aa (show Af c s=[]++Af c s from rfl)
 go_enter func154,ntmps154
 go_wp2_with fail
 refine(Qd7 s c w).mono ?_
 rintro e w' ⟨rfl,rfl⟩
 obtain⟨n,hn⟩:∃n,n=s.count c:=⟨_,rfl⟩
 have HN:=Aa hn
 rw[<-hn]at hcnt ⊢
 clear hn
 have hmin:min ((n:Int)+1) ((s.length:Int)+1)=(n:Int)+1:=by omega
 go_wp2_with (at_make;refine wpList_make_full _ rfl _ _ 63 rfl w.heap.size 9 i0 (.string ⟨#[]⟩) 1 underlying63 hi hz0 hz1 .i64 .i64 _ _ (n+1) rfl rfl (by omega) (by omega) (by rw[hz2];omega) (by unfold maxLen;omega) (Ap _) ?_;intro w0 hown0 hgrow0)
 go_loopw [0,10] (fun x i wr=>∃(ps:List (List UInt8)) (r:List UInt8) (k:Nat),i=.int .i64 k/\k<=n/\x=.string ⟨r.toArray⟩/\r.length<=s.length/\ps.length=k/\Hid (Af c s=ps++Af c r)/\Hid (r.count c+k=n) /\
   Hid (∃ys,wr.ownsRow w.heap.size 9 1 (.slice (some ⟨w.heap.size,0,none⟩) (n+1) (n+1)) (n+1) (Ae ps++ys))/\Hid (Below w.heap.size w wr)) (fun _ i _=>n - (intOf i).toNat)
 case atStart=>exact⟨[],s,0,rfl,Nat.zero_le _,rfl,Ap _,rfl,H0.o,by show _=_;have:=HN.o;omega,⟨_,hown0⟩,(As _ _).grown hgrow0 (Ap _) (by simp)⟩
 case round=>
  obtain⟨ps,r,k,rfl,hk,rfl,hr,hps,hsp,hct,hown,hb⟩:=hrel
  have Hps:=Aa hps
  clear hps
  by_cases hlt:k<n
  ·have hmem:c∈r:=by
    have:=hct.o
    exact List.count_pos_iff.1 (by omega)
   have hix:∃p t,r=p++c::t/\c∉p/\Lib.indexByte r c=(p.length:Int):=by
    rcases Jj r c with⟨h,_⟩|h
    ·exact absurd hmem h
    exact h
   obtain⟨p,t,er,hp,e⟩:=hix
   have Hi:=Aa (fun W=>Qd0 r c W)
   rw[e]at Hi
   have hl:r.length=p.length+1+t.length:=by rw[er];simp;omega
   have H1:=Aa (show r.take p.length=p by rw[er];simp)
   have H2:=Aa (show r.drop (p.length+1)=t by
    rw[er,show p++c::t=(p++[c])++t by simp]
    exact List.drop_left' (by simp))
   have Hsp:=Aa (show Af c s=(ps++[p])++Af c t by rw[hsp.o,er,J9 c p t hp];simp)
   have Hct:=Aa (show t.count c+(k+1)=n by
    have h0:=hct.o
    have h1:p.count c=0:=List.count_eq_zero.2 hp
    rw[er,List.count_append,h1,List.count_cons_self]at h0
    omega)
   obtain⟨ys,hown'⟩:=hown.o
   obtain⟨zs,n1,n2,n3,u,n4⟩:=Qai hown' Hps.o (by omega:k<n+1) p
   have N1:=Aa (show (wr.setCell ⟨w.heap.size,k,none⟩ (.string ⟨(r.take p.length).toArray⟩)).ownsRow w.heap.size 9 1 (.slice (some ⟨w.heap.size,0,none⟩) (n+1) (n+1)) (n+1) (Ae (ps++[p])++zs)by rw[H1.o];exact n1)
   have N2:=Aa (show Below w.heap.size w (wr.setCell ⟨w.heap.size,k,none⟩ (.string ⟨(r.take p.length).toArray⟩))from hb.o.setCell (p:=⟨w.heap.size,k,none⟩) (Ap _) _)
   have k1:(0:Int)<=(p.length:Int):=by omega
   have k2:(p.length:Int)<=(r.length:Int):=by omega
   have k3:p.length+1<=r.length:=by omega
   clear e er hp hmem hown' n1 n2 hl
   go_wp2_with fail
   refine(Hi.o _).mono ?_
   rintro e w' ⟨rfl,rfl⟩
   go_wp2_with fail
   go_roundw
   case rel=>exact⟨ps++[p],t,k+1,by go_num,by omega,Qgj H2.o,by have:=congrArg List.length H2.o;simp at this;omega,by rw[List.length_append,Hps.o];rfl,Hsp.o,Hct.o,⟨zs,N1.o⟩,N2.o⟩
   case measure=>simp[intOf];omega
  ·obtain rfl:k=n:=by omega
   have hno:c∉r:=by
    have:=hct.o
    exact List.count_eq_zero.1 (by omega)
   have Hsp:=Aa (show Af c s=ps++[r]by rw[hsp.o,Ft c r hno])
   obtain⟨ys,hown'⟩:=hown.o
   obtain⟨zs,n1,n2,n3,u,n4⟩:=Qai hown' Hps.o (by omega:k<k+1) r
   have N1:=Aa (Qhy n1 (by rw[List.length_append,Hps.o];rfl) (Ap _))
   have N2:=Aa (show Below w.heap.size w (wr.setCell ⟨w.heap.size,k,none⟩ (.string ⟨r.toArray⟩))from hb.o.setCell (p:=⟨w.heap.size,k,none⟩) (Ap _) _)
   clear hown' n1 n2 hno
   go_wp2_with fail
   go_ret
   refine⟨_,rfl,?_,N2.o⟩
   have e1:(Af c s).length=k+1:=by rw[Hsp.o,List.length_append,Hps.o];rfl
   rw[e1,Hsp.o]
   exact N1.o
theorem Q9(s:List UInt8)(c:UInt8)(w:World)(hs:s.length<=4000000):
  Calls prog 120 #[.string ⟨s.toArray⟩,.string ⟨#[c]⟩] w fun e w'=>
   ∃v,e=.returned v/\w'.ownsRow w.heap.size 9 1 v (Af c s).length (Ae (Af c s))/\Below w.heap.size w w':=by
 go_enter func120,ntmps120
 go_wp2_with fail
 refine(Yx s c _ hs).mono ?_
 rintro e w' ⟨v,rfl,ho,hb⟩
 have Ho:=Aa ho
 have Hb:=Aa hb
 clear ho hb
 go_wp2_with fail
 go_ret
 exact⟨_,rfl,Ho.o,Hb.o⟩
theorem An{c d:UInt8}(h:c≠d):((c.toNat:Int) == (d.toNat:Int))=false:=by
 rw[beq_eq_false_iff_ne];intro e;exact h (UInt8.toNat_inj.1 (by omega))
theorem Bl{c d:UInt8}(h:c=d):((c.toNat:Int) == (d.toNat:Int))=true:=by rw[h];simp
theorem Qet(n a b:Int)(w:World):
  Calls prog 116 #[.int .i64 n,.int .i64 a,.int .i64 b] w fun e w'=>e=.returned (.bool (decide (a<=n) && decide (n<=b)))/\w=w':=by
 go_enter func116,ntmps116
 by_cases h1:a<=n
 ·have t1:decide (a<=n)=true:=by simpa using h1
  rw[t1]
  go_wp2
  go_ret
  exact⟨rfl,rfl⟩
 have t1:decide (a<=n)=false:=by simpa using h1
 rw[t1]
 go_wp2
 go_ret
 exact⟨rfl,rfl⟩
theorem Cd(s:List UInt8)(w:World)(hs:s.length<=9223372036854775807):
  Calls prog 80 #[.string ⟨s.toArray⟩] w fun e w'=>e=.returned (.bool (Au s))/\w=w':=by
 go_enter func80,ntmps80
 go_wp2
 go_loop [3] (fun i=>∃k:Nat,k<=s.length/\i=.int .i64 k/\Hid (∀c∈s.take k,G7 c=true)) (fun i=>s.length - (intOf i).toNat)
 case atStart=>exact⟨0,Nat.zero_le _,rfl,by intro c hc;simp at hc⟩
 case round=>
  obtain⟨k,hk,rfl,hin⟩:=hrel
  by_cases hlt:k<s.length
  ·have hc:(s[k]).toNat<256:=(s[k]).toNat_lt
   have Hts:=Aa (Bn s k hlt)
   have Hm:=Aa (List.getElem_mem hlt)
   by_cases h1:G7 s[k]=true
   ·have h2:=Ml.1 h1
    obtain⟨h3,h4⟩:=h2
    have H1:=Aa h1
    clear h1
    go_wp2
    go_round
    case rel=>
     refine⟨k+1,by omega,by go_num,?_⟩
     intro c hc
     rw[Hts.o]at hc
     rcases List.mem_append.1 hc with hc|hc
     ·exact hin.o c hc
     ·simp at hc;subst hc;exact H1.o
    case measure=>simp[intOf];omega
   have hno:Au s=false:=by
    cases hh:Au s with
    |false=>rfl
    |true=>exact absurd ((C9.1 hh).2.2 _ Hm.o) h1
   have Hno:=Aa hno
   have h2:(s[k]).toNat<97\/122<(s[k]).toNat:=by
    rcases Nat.lt_or_ge (s[k]).toNat 97 with h|h
    ·exact .inl h
    rcases Nat.lt_or_ge 122 (s[k]).toNat with h'|h'
    ·exact .inr h'
    exact absurd (Ml.2 ⟨h,h'⟩) h1
   clear h1 hno
   rcases h2 with h2|h2
   ·go_wp2
    go_ret
    exact⟨D4 (Ci Hno.o.symm),rfl⟩
   have h3:97<=(s[k]).toNat:=by omega
   go_wp2
   go_ret
   exact⟨D4 (Ci Hno.o.symm),rfl⟩
  ·have hfin:(decide ((1:Int)<=(s.length:Int)) && decide ((s.length:Int)<=3))=Au s:=by
    have hall:s.all G7=true:=List.all_eq_true.2 (fun c hc=>hin.o c (by rw[List.take_of_length_le (by omega)];exact hc))
    unfold Au
    rw[hall,Bool.and_true]
    congr 1<;>· rw[decide_eq_decide];omega
   have Hfin:=Aa hfin
   clear hfin
   go_wp2_with fail
   refine(Qet _ _ _ _).mono ?_
   rintro e w' ⟨rfl,rfl⟩
   go_wp2_with fail
   go_ret
   exact⟨D4 (Ci Hfin.o),rfl⟩
theorem Sx(c:UInt8)(t:List UInt8)(hc:Bo c=true):(Cg (c::t)).isSome=(decide (t.length<12) && (Cg t).isSome):=by
 unfold Cg
 simp only[List.dropWhile_cons,List.takeWhile_cons,hc,if_true]
 by_cases h:12<(c::t).length
 ·rw[if_pos h]
  simp at h
  have:¬t.length<12:=by omega
  simp[this]
 rw[if_neg h]
 simp at h
 have h2:¬12<t.length:=by omega
 have:t.length<12:=by omega
 rw[if_neg h2]
 simp only[this,decide_true,Bool.true_and]
 by_cases h3:t.dropWhile Bo=[110]\/t.dropWhile Bo=[116]\/t.dropWhile Bo=[102]
 ·rw[if_pos h3,if_pos h3];rfl
 rw[if_neg h3,if_neg h3]
 by_cases h4:(t.dropWhile Bo).head?=some 64/\(t.dropWhile Bo).getLast?=some 59/\Au ((t.dropWhile Bo).drop 1).dropLast=true
 ·rw[if_pos h4,if_pos h4];rfl
 rw[if_neg h4,if_neg h4]
theorem Qez(t:List UInt8):(Cg (64::t)).isSome=(decide (t.length<12) && decide ((64::t).getLast?=some 59) && Au t.dropLast):=by
 unfold Cg
 have h64:Bo 64=false:=by decide
 simp only[List.dropWhile_cons,List.takeWhile_cons,h64]
 by_cases h:12<(64::t).length
 ·rw[if_pos h]
  simp at h
  have:¬t.length<12:=by omega
  simp[this]
 rw[if_neg h]
 simp at h
 have:t.length<12:=by omega
 simp[this]
 split
 ·rename_i hh;simp[hh]
 rename_i hh
 simp only[Option.isSome_none]
 cases hn:Au t.dropLast with
 |false=>simp
 |true=>simp[hn]at hh;simp[hh]
theorem Qab(c:UInt8)(t:List UInt8)(h1:Bo c=false)(h2:c≠64):(Cg (c::t)).isSome=(decide (c::t=[110]) || decide (c::t=[116]) || decide (c::t=[102])):=by
 unfold Cg
 simp only[List.dropWhile_cons,List.takeWhile_cons,h1]
 by_cases h:12<(c::t).length
 ·rw[if_pos h]
  simp at h
  have e:t≠[]:=by rintro rfl;simp at h
  simp[e]
 rw[if_neg h]
 by_cases h3:c::t=[110]\/c::t=[116]\/c::t=[102]
 ·simp only[Bool.false_eq_true,if_false]
  rw[if_pos h3]
  rcases h3 with h3|h3|h3<;>simp[h3]
 simp only[Bool.false_eq_true,if_false]
 rw[if_neg h3,if_neg (by simp[h2])]
 simp only[not_or]at h3
 simp[h3]
theorem Mt:∀(n:Nat) (s:List UInt8) (w:World),s.length<=n->s.length<=9223372036854775807 ->
  Calls prog 42 #[.string ⟨s.toArray⟩] w fun e w'=>e=.returned (.bool (Cg s).isSome)/\w=w':=by
 intro n
 induction n with
 |zero=>
  intro s w hn hs
  obtain rfl:s=[]:=List.eq_nil_of_length_eq_zero (by omega)
  go_enter func42,ntmps42
  go_wp2_with fail
  go_ret
  exact⟨rfl,rfl⟩
 |succ n ih=>
  intro s w hn hs
  have Ih:=Aa ih
  clear ih
  by_cases h12:12<s.length
  ·have Hf:=Aa (show (Cg s).isSome=false by unfold Cg;rw[if_pos h12];rfl)
   go_enter func42,ntmps42
   go_wp2_with fail
   go_ret
   exact⟨D4 (Ci Hf.o.symm),rfl⟩
  cases s with
  |nil=>
   go_enter func42,ntmps42
   go_wp2_with fail
   go_ret
   exact⟨rfl,rfl⟩
  |cons c t=>
   have hlt:t.length<12:=by simp at h12;omega
   have hn':t.length<=n:=by simp at hn;omega
   have hc:=c.toNat_lt
   by_cases h91:c=91
   ·have Hf:=Aa (show (Cg (c::t)).isSome=(Cg t).isSome by rw[Sx c t (by rw[h91];decide)];simp[hlt])
    have e1:c.toNat=91:=by rw[h91];rfl
    have t1:((c.toNat:Int) == 91)=true:=by simp[e1]
    clear h91 e1
    go_enter func42,ntmps42
    go_wp2_with fail
    refine(Ih.o t _ hn' (by omega)).mono ?_
    rintro e w' ⟨rfl,rfl⟩
    go_wp2_with fail
    go_ret
    exact⟨D4 (Ci Hf.o.symm),rfl⟩
   have t1:((c.toNat:Int) == 91)=false:=An h91
   by_cases h63:c=63
   ·have Hf:=Aa (show (Cg (c::t)).isSome=(Cg t).isSome by rw[Sx c t (by rw[h63];decide)];simp[hlt])
    have e1:c.toNat=63:=by rw[h63];rfl
    have t2:((c.toNat:Int) == 63)=true:=by simp[e1]
    clear h63 h91 e1
    go_enter func42,ntmps42
    go_wp2_with fail
    refine(Ih.o t _ hn' (by omega)).mono ?_
    rintro e w' ⟨rfl,rfl⟩
    go_wp2_with fail
    go_ret
    exact⟨D4 (Ci Hf.o.symm),rfl⟩
   have t2:((c.toNat:Int) == 63)=false:=An h63
   by_cases h64:c=64
   ·have e1:c.toNat=64:=by rw[h64];rfl
    have t3:((c.toNat:Int) == 64)=true:=by simp[e1]
    rcases Eh t with rfl|⟨u,d,rfl⟩
    ·have Hf:=Aa (show (Cg [c]).isSome=false by rw[h64];decide)
     have t4:((c.toNat:Int) == 59)=false:=by simp[e1]
     clear h64 h63 h91 e1
     go_enter func42,ntmps42
     go_wp2_with fail
     go_ret
     exact⟨D4 (Ci Hf.o.symm),rfl⟩
    have hk:=Qez (u++[d])
    have hl:(c::(u++[d])).getLast?=some d:=by
     rw[show c::(u++[d])=(c::u)++[d]from rfl,List.getLast?_append];rfl
    rw[<-h64,hl,List.dropLast_concat]at hk
    have hd:=d.toNat_lt
    simp at hlt
    have hgd:∀h,(c::(u++[d]))[u.length+1]'h=d:=by
     intro h;simp
    have hsl:(List.take u.length (u++[d]))=u:=by simp
    by_cases h59:d=59
    ·have e2:d.toNat=59:=by rw[h59];rfl
     have t4:((d.toNat:Int) == 59)=true:=by simp[e2]
     have Hf:=Aa (show (Cg (c::(u++[d]))).isSome=Au u by rw[hk,h59];simp;omega)
     clear h64 h63 h91 e1 hk hl h59 e2
     go_enter func42,ntmps42
     go_wp2_with fail
     refine(Cd u _ (by omega)).mono ?_
     rintro e w' ⟨rfl,rfl⟩
     go_wp2_with fail
     go_ret
     exact⟨D4 (Ci Hf.o.symm),rfl⟩
    have t4:((d.toNat:Int) == 59)=false:=An h59
    have Hf:=Aa (show (Cg (c::(u++[d]))).isSome=false by rw[hk];simp[h59])
    clear h64 h63 h91 e1 hk hl h59
    go_enter func42,ntmps42
    go_wp2_with fail
    go_ret
    exact⟨D4 (Ci Hf.o.symm),rfl⟩
   have t3:((c.toNat:Int) == 64)=false:=An h64
   have hk:=Qab c t (by simp[Bo,h91,h63]) h64
   have Hk:=Aa hk
   clear hk h64 h63 h91
   cases t with
   |cons x t=>
    have hl2:t.length+1+1<=12:=by simp at hlt;omega
    have Hf:=Aa (show (Cg (c::x::t)).isSome=false by rw[Hk.o];simp)
    clear Hk
    go_enter func42,ntmps42
    go_wp2_with fail
    all_goals
     go_ret
     exact⟨D4 (Ci (by rw[Hf.o])),rfl⟩
   |nil=>
    by_cases g1:c=110
    ·subst g1
     go_enter func42,ntmps42
     go_wp2_with fail
     go_ret
     exact⟨rfl,rfl⟩
    by_cases g2:c=116
    ·subst g2
     go_enter func42,ntmps42
     go_wp2_with fail
     go_ret
     exact⟨rfl,rfl⟩
    by_cases g3:c=102
    ·subst g3
     go_enter func42,ntmps42
     go_wp2_with fail
     go_ret
     exact⟨rfl,rfl⟩
    have Hf:=Aa (show (Cg [c]).isSome=false by rw[Hk.o];simp[g1,g2,g3])
    go_enter func42,ntmps42
    go_wp2_with fail
    go_ret
    exact⟨D4 (Ci (by rw[Hf.o];simp[g1,g2,g3])),rfl⟩
def Px:Value->Nat
 |.string b=>b.size
 |_=>0
theorem Jv(l:List UInt8):Px (.string ⟨l.toArray⟩)=l.length:=rfl
theorem Qch(k:Kd)(w:World)(hk:k.signs.all Bo=true)(hb:∃c t,Ce k=c::t/\Bo c=false)(hs:(Bq k).length<=9223372036854775807):
  Calls prog 44 #[.string ⟨(Bq k).toArray⟩] w fun e w'=>e=.returned (.string ⟨(Ce k).toArray⟩)/\w=w':=by
 obtain⟨d,u,hcu,hd⟩:=hb
 have hlen:(Bq k).length=k.signs.length+(u.length+1):=by unfold Bq;rw[hcu];simp
 unfold Bq
 rw[hcu]
 generalize k.signs=g at hk hlen
 clear hcu
 have hd1:d≠91:=by rintro rfl;revert hd;decide
 have hd2:d≠63:=by rintro rfl;revert hd;decide
 have d1:((d.toNat:Int) == 91)=false:=An hd1
 have d2:((d.toNat:Int) == 63)=false:=An hd2
 have hdl:=d.toNat_lt
 clear hd hd1 hd2
 have hs2:g.length+u.length+1<=9223372036854775807:=by omega
 have Hk:=Aa (List.all_eq_true.1 hk)
 clear hs hlen hk
 go_enter func44,ntmps44
 go_wp2_with fail
 go_loop [0] (fun x=>∃k:Nat,k<=g.length/\x=.string ⟨(g.drop k++d::u).toArray⟩) (fun x=>Px x)
 case atStart=>exact⟨0,Nat.zero_le _,rfl⟩
 case round=>
  obtain⟨k,hk,rfl⟩:=hrel
  by_cases hlt:k<g.length
  ·have hdr:g.drop k=g[k]::g.drop (k+1):=List.drop_eq_getElem_cons hlt
   have hl3:(g.drop (k+1)).length<=g.length:=by simp
   have hsg:=Hk.o _ (List.getElem_mem hlt)
   have hc:=(g[k]).toNat_lt
   rw[hdr]
   generalize g[k]=c at hsg hc
   have hsg2:c=91\/c=63:=by simpa [Bo]using hsg
   have Hd:=Aa hdr
   clear hsg hdr
   rcases hsg2 with h91|h63
   ·have t1:((c.toNat:Int) == 91)=true:=Bl h91
    clear h91
    go_wp2_with fail
    go_round
    case rel=>exact⟨k+1,by omega,Qgj (List.take_of_length_le (by simp))⟩
    case measure=>rw[Jv,Jv];simp
   have t1:((c.toNat:Int) == 91)=false:=An (d:=91) (by rw[h63];decide)
   have t2:((c.toNat:Int) == 63)=true:=Bl h63
   clear h63
   go_wp2_with fail
   go_round
   case rel=>exact⟨k+1,by omega,Qgj (List.take_of_length_le (by simp))⟩
   case measure=>rw[Jv,Jv];simp
  ·rw[List.drop_of_length_le (by omega),List.nil_append]
   go_wp2_with fail
   go_ret
   exact⟨rfl,rfl⟩
theorem Xc(nm:List UInt8)(w:World)(hn:nm.length<=1000):
  Calls prog 43 #[.string ⟨(64::(nm++[59])).toArray⟩] w fun e w'=>e=.returned (.tuple #[.string ⟨nm.toArray⟩,.bool true])/\w=w':=by
 have h1:(nm++[59]).take nm.length=nm:=by simp
 go_enter func43,ntmps43
 go_wp2_with fail
 go_ret2
 exact⟨rfl,rfl⟩
theorem Zk(c:UInt8)(t:List UInt8)(w:World)(hc:c≠64)(hn:t.length<=1000):
  Calls prog 43 #[.string ⟨(c::t).toArray⟩] w fun e w'=>e=.returned (.tuple #[.string ⟨#[]⟩,.bool false])/\w=w':=by
 have t1:((c.toNat:Int) != 64)=true:=by
  have:=An hc
  rw[bne_iff_ne];intro e
  have h64:((64:UInt8).toNat:Int)=64:=rfl
  rw[beq_eq_false_iff_ne,h64]at this
  exact this e
 clear hc
 go_enter func43,ntmps43
 go_wp2_with fail
 go_ret2
 exact⟨rfl,rfl⟩
def Qg1:List UInt8:=[97,98,99,100,101,102,103,104,105,106,107,108,109,110,111,112,113,114,115,116,117,118,119,120,121,122]
def Qbr:List UInt8:=[97,98,99,100,101,102,103,104,105,106,107,108,109,110,111,112,113,114,115,116,117,118,119,120,121,122,48,49,50,51,52,53,54,55,56,57,32]
theorem N0{p:UInt8->Bool}(h:∀n,n<256->p (UInt8.ofNat n)=true)(c:UInt8):p c=true:=by
 have:=h c.toNat c.toNat_lt
 rwa [UInt8.ofNat_toNat]at this
theorem Qe2(c:UInt8):Qg1.contains c=G7 c:=by
 have:=N0 (p:=fun c=>Qg1.contains c == G7 c) (by decide +kernel) c
 simpa using this
theorem Z5(c:UInt8):Qbr.contains c=B0 c:=by
 have:=N0 (p:=fun c=>Qbr.contains c == B0 c) (by decide +kernel) c
 simpa using this
theorem Qhq(s:List UInt8):s.all (Qg1.contains ·)=s.all G7:=by congr 1;funext c;exact Qe2 c
theorem Qhl(s:List UInt8):s.all (Qbr.contains ·)=s.all B0:=by congr 1;funext c;exact Z5 c
theorem Jz(s:List UInt8)(w:World)(hs:s.length<=9223372036854775807):
  Calls prog 95 #[.string ⟨s.toArray⟩] w fun e w'=>e=.returned (.bool (Au s))/\Below w.heap.size w w':=by
 by_cases h1:1<=s.length
 ·by_cases h3:s.length<=3
  ·have hT:=fun W=>Ze s Qg1 W hs (by decide) (by decide)
   simp only[Qhq]at hT
   have HT:=Aa hT
   have hn:Au s=s.all G7:=by simp[Au,h1,h3]
   have Hn:=Aa hn
   clear hn hT
   go_enter func95,ntmps95
   go_wp2_with fail
   refine(HT.o _).mono ?_
   rintro e w' ⟨⟨r,rfl,hr⟩,hb⟩
   cases r with
   |nil=>
    have Hr:=Aa (hr.1 rfl)
    clear hr
    go_wp2_with fail
    go_ret
    exact⟨D4 (Ci (by rw[Hn.o,Hr.o])),hb⟩
   |cons x r=>
    have Hr:=Aa (show s.all G7=false by
     cases h:s.all G7 with
     |false=>rfl
     |true=>exact absurd (hr.2 h) (by simp))
    clear hr
    go_wp2_with fail
    go_ret
    exact⟨D4 (Ci (by rw[Hn.o,Hr.o])),hb⟩
  have Hn:=Aa (show Au s=false by simp[Au,h3])
  go_enter func95,ntmps95
  go_wp2_with fail
  go_ret
  exact⟨D4 (Ci Hn.o.symm),As _ _⟩
 have Hn:=Aa (show Au s=false by simp[Au,h1])
 go_enter func95,ntmps95
 go_wp2_with fail
 go_ret
 exact⟨D4 (Ci Hn.o.symm),As _ _⟩
theorem Qbt(s:List UInt8)(w:World)(hs:s.length<=9223372036854775807):
  Calls prog 174 #[.string ⟨s.toArray⟩] w fun e w'=>e=.returned (.bool (Dh s))/\Below w.heap.size w w':=by
 by_cases h3:s.length<=12
 ·have hT:=fun W=>Ze s Qbr W hs (by decide) (by decide)
  simp only[Qhl]at hT
  have HT:=Aa hT
  have hn:Dh s=s.all B0:=by simp[Dh,h3]
  have Hn:=Aa hn
  have t0:decide ((s.length:Int)<=12)=true:=by simp;omega
  clear hn hT
  go_enter func174,ntmps174
  go_wp2_with fail
  refine(HT.o _).mono ?_
  rintro e w' ⟨⟨r,rfl,hr⟩,hb⟩
  cases r with
  |nil=>
   have Hr:=Aa (hr.1 rfl)
   clear hr
   go_wp2_with fail
   go_ret
   exact⟨D4 (Ci (by rw[Hn.o,Hr.o])),hb⟩
  |cons x r=>
   have Hr:=Aa (show s.all B0=false by
    cases h:s.all B0 with
    |false=>rfl
    |true=>exact absurd (hr.2 h) (by simp))
   clear hr
   go_wp2_with fail
   go_ret
   exact⟨D4 (Ci (by rw[Hn.o,Hr.o])),hb⟩
 have Hn:=Aa (show Dh s=false by simp[Dh,h3])
 have t0:decide ((s.length:Int)<=12)=false:=by simp;omega
 go_enter func174,ntmps174
 go_wp2_with fail
 go_ret
 exact⟨D4 (Ci Hn.o.symm),As _ _⟩
def pnV(s:List UInt8)(m:Nat):Value:=
 match Cf s with
 |none=>.tuple #[.int .i64 0,.bool false]
 |some n=>.tuple #[.int .i64 n,.bool (decide (n<=m))]
theorem Po{s:List UInt8}{m:Nat}(h:Cf s=none):pnV s m=.tuple #[.int .i64 0,.bool false]:=by unfold pnV;rw[h]
theorem Sn{s:List UInt8}{m n:Nat}(h:Cf s=some n):pnV s m=.tuple #[.int .i64 n,.bool (decide (n<=m))]:=by unfold pnV;rw[h]
theorem Yt(s:List UInt8)(k:Nat)(hk:k<=6)(h:(s.take k).all Ba=true):Fk (s.take k)<=999999:=by
 have h1:=So (s.take k).length (s.take k) rfl h
 have h2:10 ^ (s.take k).length<=10 ^ 6:=Nat.pow_le_pow_right (by omega) (by simp;omega)
 have e6:10 ^ 6=1000000:=rfl
 omega
theorem Gh(s:List UInt8)(m:Nat)(w:World)(hs:s.length<=9223372036854775807)(hm:m<=999999):
  Calls prog 130 #[.string ⟨s.toArray⟩,.int .i64 m] w fun e w'=>e=.returned (pnV s m)/\w=w':=by
 rcases Nat.lt_or_ge s.length 1 with h1|h1
 ·obtain rfl:s=[]:=List.eq_nil_of_length_eq_zero (by omega)
  have Hn:=Aa (Po (m:=m) (show Cf []=none by rfl))
  go_enter func130,ntmps130
  go_wp2_with fail
  go_ret2
  exact⟨by rw[Hn.o];rfl,rfl⟩
 rcases Nat.lt_or_ge 6 s.length with h6|h6
 ·have Hn:=Aa (Po (m:=m) (show Cf s=none by unfold Cf;rw[if_neg];rintro⟨_,h,_⟩;omega))
  go_enter func130,ntmps130
  go_wp2_with fail
  go_ret2
  exact⟨by rw[Hn.o];rfl,rfl⟩
 have hc0:=(s[0]'(by omega)).toNat_lt
 have h3:(s[0]'(by omega)=48/\1<s.length)\/((((s[0]'(by omega)).toNat:Int) == 48)=true/\s.length<=1)\/((((s[0]'(by omega)).toNat:Int) == 48)=false):=by
  by_cases h:s[0]'(by omega)=48
  ·rcases Nat.lt_or_ge 1 s.length with h'|h'
   ·exact .inl ⟨h,h'⟩
   exact .inr (.inl ⟨Bl h,h'⟩)
  exact .inr (.inr (An h))
 have hhd:(s.head?≠some 48\/s.length=1)\/(s[0]'(by omega)=48/\1<s.length):=by
  rcases h3 with h|⟨_,h⟩|h
  ·exact .inr h
  ·exact .inl (.inr (by omega))
  refine .inl (.inl ?_)
  rw[List.head?_eq_getElem?,List.getElem?_eq_getElem (by omega)]
  intro e
  injection e with e
  rw[e]at h
  exact absurd h (by decide)
 have Hhd:=Aa hhd
 clear hhd
 rcases h3 with⟨hz,hl⟩|⟨t0,hl⟩|t0
 ·have Hn:=Aa (Po (m:=m) (show Cf s=none by
   unfold Cf
   rw[if_neg]
   rintro⟨_,_,_,h|h⟩
   ·apply h
    rw[List.head?_eq_getElem?,List.getElem?_eq_getElem (by omega),hz]
   omega))
  have t0:(((s[0]'(by omega)).toNat:Int) == 48)=true:=Bl hz
  have Hz:=Aa hz
  go_enter func130,ntmps130
  go_wp2_with fail
  go_ret2
  exact⟨by rw[Hn.o];rfl,rfl⟩
 all_goals
  have Hall:Hid (s.head?≠some 48\/s.length=1):=by
   rcases Hhd.o with h|⟨e,h⟩
   ·exact h
   exfalso
   first
    |omega
    |(rw[e]at t0;exact absurd t0 (by decide))
  clear Hhd
  go_enter func130,ntmps130
  go_wp2_with fail
  go_loop [6,28] (fun x i=>∃k:Nat,i=.int .i64 k/\k<=s.length/\Hid ((s.take k).all Ba=true)/\Fk (s.take k)<=999999/\x=.int .i64 ((Fk (s.take k):Nat):Int)) (fun _ i=>s.length - (intOf i).toNat)
  case atStart=>exact⟨0,rfl,Nat.zero_le _,by simp[Hid],by simp[Fk],by simp[Fk]⟩
  case round=>
   obtain⟨k,rfl,hk,hdig,hv,rfl⟩:=hrel
   by_cases hlt:k<s.length
   ·have hc:=(s[k]).toNat_lt
    have Hts:=Aa (Bn s k hlt)
    by_cases hd:Ba s[k]=true
    ·have hd2:=Da.1 hd
     obtain⟨d1,d2⟩:=hd2
     have hdig2:(s.take (k+1)).all Ba=true:=by
      rw[Hts.o,List.all_append,hdig.o];simp[hd]
     have hv2:=Yt s (k+1) (by omega) hdig2
     have Hdig2:=Aa hdig2
     have Hv:=Aa (show Fk (s.take (k+1))=10*Fk (s.take k)+((s[k]).toNat - 48)by rw[Hts.o,Ju])
     clear hd hdig2
     go_wp2_with fail
     go_round
     case rel=>exact⟨k+1,by go_num,by omega,Hdig2.o,hv2,Qiy (by rw[Hv.o];omega)⟩
     case measure=>simp[intOf];omega
    have Hn:=Aa (Po (m:=m) (show Cf s=none by
     unfold Cf
     rw[if_neg]
     rintro⟨_,_,h,_⟩
     exact hd (List.all_eq_true.1 h _ (List.getElem_mem hlt))))
    have h2:(s[k]).toNat<48\/(48<=(s[k]).toNat/\57<(s[k]).toNat):=by
     rcases Nat.lt_or_ge (s[k]).toNat 48 with h|h
     ·exact .inl h
     rcases Nat.lt_or_ge 57 (s[k]).toNat with h'|h'
     ·exact .inr ⟨h,h'⟩
     exact absurd (Da.2 ⟨h,h'⟩) hd
    clear hd
    rcases h2 with h2|⟨h2,h4⟩
    ·go_wp2_with fail
     go_ret2
     exact⟨by rw[Hn.o];rfl,rfl⟩
    go_wp2_with fail
    go_ret2
    exact⟨by rw[Hn.o];rfl,rfl⟩
   ·have e:s.take k=s:=List.take_of_length_le (by omega)
    have Hn:=Aa (Sn (m:=m) (show Cf s=some (Fk (s.take k))by
     have hd:=hdig.o
     rw[e]at hd ⊢
     unfold Cf
     rw[if_pos ⟨by omega,by omega,hd,Hall.o⟩]))
    clear e
    generalize Fk (s.take k)=v at hv Hn
    by_cases hvm:v<=m
    ·go_wp2_with fail
     go_ret2
     exact⟨by rw[Hn.o];exact Qhn rfl (Ci (by simp[hvm])),rfl⟩
    go_wp2_with fail
    go_ret2
    exact⟨by rw[Hn.o];exact Qhn rfl (Ci (by simp;omega)),rfl⟩
abbrev Cl:=List UInt8
def Ra(S:List Ty):Nat->Kd->List Cl->List Cl
 |0,_,out=>out
 |n+1,k,out=>
  if k.base=[64]/\k.name∉out then
   (match By S k.name with
    |none=>out++[k.name]
    |some t=>if t.sort=69 then out++[k.name]else t.fields.foldl (fun o f=>Ra S n f.kind o) (out++[k.name]))
  else out
def Kl(S:List Ty):List Cl:=S.map (·.name)
def Qg8(S:List Ty)(out:List Cl):Prop:=out.Nodup/\∀x∈out,x∈Kl S
theorem Qg8.nil(S:List Ty):Qg8 S []:=⟨List.nodup_nil,by simp⟩
theorem Qci:∀(l m:List Cl),l.Nodup->(∀x∈l,x∈m)->l.length<=m.length
 |[],m,_,_=>Nat.zero_le _
 |x::l,m,hn,hs=>by
  obtain⟨h1,h2⟩:=List.nodup_cons.1 hn
  have hx:=hs x (by simp)
  have ih:=Qci l (m.erase x) h2 (fun y hy=>by
   have hne:y≠x:=by rintro rfl;exact h1 hy
   exact(List.mem_erase_of_ne hne).2 (hs y (by simp[hy])))
  have hl:=List.length_erase_of_mem hx
  have hp:0<m.length:=List.length_pos_iff.2 (by rintro rfl;cases hx)
  simp;omega
theorem Qg8.len{S:List Ty}{out:List Cl}(h:Qg8 S out):out.length<=S.length:=by
 have:=Qci out (Kl S) h.1 h.2
 simpa [Kl]using this
end
theorem Mb{α:Type}{p q:α->Bool}:∀(l:List α) (_:∀x,q x=true->p x=true) {a:α} (_:a∈l) (_:p a=true) (_:q a=false),(l.filter q).length<(l.filter p).length
 |[],_,_,ha,_,_=>by cases ha
 |x::l,h,a,ha,hp,hq=>by
  have hle:∀l:List α,(l.filter q).length<=(l.filter p).length:=by
   intro l
   induction l with
   |nil=>exact Ap _
   |cons y l ih=>
    simp only[List.filter_cons]
    by_cases h1:q y=true
    ·rw[if_pos h1,if_pos (h y h1)];simpa using ih
    rw[if_neg h1];split
    ·simp;omega
    exact ih
  rcases List.mem_cons.1 ha with rfl|ha
  ·have:=hle l
   simp only[List.filter_cons,hp,hq];simp;omega
  have ih:=Mb l h ha hp hq
  simp only[List.filter_cons]
  by_cases h1:q x=true
  ·rw[if_pos h1,if_pos (h x h1)];simpa using ih
  rw[if_neg h1];split
  ·simp;omega
  exact ih
section
variable {P:Program} {ops:Array Oper} {Q:Exit->Act->World->Prop} {md:Region.Mode}
def Ql(ops:Array Oper)(listed:Array Bool):Nat:=((List.range ops.size).filter fun i=>!listed.getD i false).length
theorem Xe(hac:∀(i:Nat) (o:Oper),ops[i]?=some o->∀e∈o.after,Region.binds md e=true->e.on<i)(I:(Nat->Bool)->Act->World->Prop)
  (hstep:∀(l:Nat->Bool) a w i o,ops[i]?=some o->l i=false->(∀e∈o.after,Region.binds md e=true->l e.on=true)->I l a w->wpOp P ops Q i (I fun j=>if j=i then true else l j) a w)
  (hdone:∀l a w,(∀i,i<ops.size->l i=true)->I l a w->Q .normal a w):
  ∀(fuel:Nat) (listed:Array Bool) a w,listed.size=ops.size->Ql ops listed<=fuel->I (fun j=>listed.getD j false) a w->wpAny P md ops Q fuel listed a w:=by
 have hall:∀listed:Array Bool,listed.size=ops.size->Region.ready md ops listed=[]->∀i,i<ops.size->listed.getD i false=true:=by
  intro listed hsz hr i
  induction i using Nat.strongRecOn with
  |ind i ih=>
   intro hi
   cases hb:listed.getD i false with
   |true=>rfl
   |false=>
    have:i∈Region.ready md ops listed:=by
     rw[mem_ready]
     refine ⟨by have h2:i<listed.size:=by omega
                simpa [Array.getD,h2]using hb,ops[i],by simp[hi],fun e he hbd=>?_⟩
     have h1:=hac i ops[i] (by simp[hi]) e he hbd
     exact ih e.on h1 (by omega)
    rw[hr]at this
    cases this
 intro fuel
 induction fuel with
 |zero=>
  intro listed a w hsz hst hI
  have hall':∀i,i<ops.size->listed.getD i false=true:=by
   intro i hi
   have h0:((List.range ops.size).filter fun i=>!listed.getD i false)=[]:=List.eq_nil_of_length_eq_zero (by unfold Ql at hst;omega)
   have:=List.filter_eq_nil_iff.1 h0 i (List.mem_range.2 hi)
   simpa using this
  refine⟨?_,hdone _ a w hall' hI⟩
  cases hr:Region.ready md ops listed with
  |nil=>rfl
  |cons j js=>
   have hj:j∈Region.ready md ops listed:=by rw[hr];simp
   obtain⟨h1,o,h2,_⟩:=mem_ready.1 hj
   have h3:j<ops.size:=(Array.getElem?_eq_some_iff.1 h2).1
   have h4:=hall' j h3
   have h5:j<listed.size:=by omega
   simp[Array.getD,h5]at h1 h4
   rw[h1]at h4;cases h4
 |succ fuel ih=>
  intro listed a w hsz hst hI
  refine⟨fun hr=>hdone _ a w (hall listed hsz hr) hI,fun i hi=>?_⟩
  obtain⟨h1,o,h2,h3⟩:=mem_ready.1 hi
  have hlt:i<ops.size:=(Array.getElem?_eq_some_iff.1 h2).1
  have hlt2:i<listed.size:=by omega
  have h1':listed.getD i false=false:=by simpa [Array.getD,hlt2]using h1
  have hset:∀j,(listed.setIfInBounds i true).getD j false=if j=i then true else listed.getD j false:=by
   intro j
   by_cases hj:j=i
   ·subst hj;simp[Array.getD,hlt2]
   rw[if_neg hj,getD_set_ne _ (Ne.symm hj)]
  refine wpOp_mono (fun a' w' h=>ih (listed.setIfInBounds i true) a' w' (by simpa using hsz) ?_ ?_) (hstep _ a w i o h2 h1' h3 hI)
  ·have:=Mb (p:=fun i=>!listed.getD i false) (q:=fun j=>!(listed.setIfInBounds i true).getD j false) (List.range ops.size) (fun x hx=>by
    simp only[Bool.not_eq_true']at hx ⊢
    rw[hset]at hx
    by_cases hxi:x=i
    ·rw[if_pos hxi]at hx;cases hx
    rwa [if_neg hxi]at hx) (List.mem_range.2 hlt) (by simp only[h1',Bool.not_false]) (by simp only[hset,if_true,Bool.not_true])
   unfold Ql at hst ⊢
   omega
  have e:(fun j=>(listed.setIfInBounds i true).getD j false)=fun j=>if j=i then true else listed.getD j false:=funext hset
  rw[e];exact h
def Aq(p:Nat->Oper->Prop)(k:Nat)(os:List Oper):Prop:=∀i o,os[i]?=some o->p (k+i) o
theorem Aq.nil{p:Nat->Oper->Prop}{k:Nat}:Aq p k []:=fun i o h=>by simp at h
theorem Aq.cons{p:Nat->Oper->Prop}{k:Nat}{o:Oper}{os:List Oper}(h:p k o)(hs:Aq p (k+1) os):Aq p k (o::os):=fun i o' ho=>by
 cases i with
 |zero=>simp at ho;subst ho;exact h
 |succ i=>simp at ho;have:=hs i o' ho;rwa [Nat.add_assoc,Nat.add_comm 1 i]at this
theorem Vh{id:Nat}(hm:P.follows .mixedOrders=true)(hac:(List.range ops.size).all (fun i=>((ops[i]?).map fun o=>o.after.all fun e=>!Region.binds .any e || decide (e.on<i)).getD true)=true)
  (mk:(Nat->Value)->Act) (u0:Nat->Value) {a:Act} (ha:a=mk u0) {w:World}
  (φ:Nat->Value->World->Prop) (R:(Nat->Bool)->World->Prop) (Rel:World->World->Prop)
  (hput:Aq (fun i o=>∀u v,(mk u).put o.dst v=mk (fun j=>if j=i then v else u j)) 0 ops.toList)
  (hst:∀w w',Rel w w'->∀i v,φ i v w->φ i v w')
  (h0:R (fun _=>false) w.drew)
  (hstep:Aq (fun i o=>∀(l:Nat->Bool) u w,l i=false->(∀e∈o.after,Region.binds .any e=true->l e.on=true/\φ e.on (u e.on) w)->R l w ->
   ∀K:Act->World->Prop,(∀v w' a',φ i v w'->Rel w w'->R (fun j=>if j=i then true else l j) w'->a'=(mk u).put o.dst v->K a' w') ->
    if Region.wanted o (yielded ops (mk u).tmps)=true then Oper.wp P o (mk u) w K Q else K ((mk u).put o.dst undef) w) 0 ops.toList)
  (hdone:∀(l:Nat->Bool) u w,(∀i,i<ops.size->l i=true)->(∀i,i<ops.size->φ i (u i) w)->R l w->Q .normal (mk u) w):(Code.region id ops true).wp P Q a w:=by
 subst ha
 have hst':=fun i v w w' h=>hst w w' h i v
 have hac':∀(i:Nat) (o:Oper),ops[i]?=some o->∀e∈o.after,Region.binds .any e=true->e.on<i:=by
  intro i o ho e he hbd
  have hlt:i<ops.size:=(Array.getElem?_eq_some_iff.1 ho).1
  have h:=List.all_eq_true.1 hac i (List.mem_range.2 hlt)
  rw[ho]at h
  have:=Array.all_eq_true_iff_forall_mem.1 h e he
  simpa [hbd]using this
 refine wp_region_any hm ?_
 refine Xe hac' (fun l a w=>∃u,a=mk u/\(∀i,l i=true->i<ops.size->φ i (u i) w)/\R l w) ?_ ?_ ops.size _ (mk u0) _ (by simp) (by
  unfold Ql
  exact Nat.le_trans (List.length_filter_le _ _) (by simp)) ⟨u0,rfl,?_,?_⟩
 ·rintro l a w i o ho hl hpre ⟨u,rfl,hφ,hR⟩
  have ho':ops.toList[i]?=some o:=by simpa using ho
  have hp:=hput i o ho'
  have hs:=hstep i o ho'
  rw[Nat.zero_add]at hp hs
  refine wpOp_step ho fun K' hK'=>?_
  refine hs l u w hl (fun e he hb=>⟨hpre e he hb,hφ e.on (hpre e he hb) ?_⟩) hR K' (fun v w' a' hv hrel hR' ha'=>hK' _ _ ⟨_,ha'.trans (hp u v),fun j hj hjs=>?_,hR'⟩)
  ·have:=hac' i o ho e he hb
   have:=(Array.getElem?_eq_some_iff.1 ho).1
   omega
  by_cases hji:j=i
  ·subst hji;simpa using hv
  have hj':l j=true:=by simpa [hji]using hj
  simpa [hji]using hst' j _ w w' hrel (hφ j hj' hjs)
 ·rintro l a w hl ⟨u,rfl,hφ,hR⟩
  exact hdone l u w hl (fun i hi=>hφ i (hl i hi) hi) hR
 ·intro i hi
  simp[Array.getD]at hi
 have e:(fun j=>(Array.replicate ops.size false).getD j false)=fun _=>false:=by
  funext j
  simp[Array.getD]
 rw[e];exact h0
def Bi:List Nat->Nat->(Nat->Value)->List Value->List Value
 |[],_,_,t=>t
 |s::S,i,u,t=>Bi S (i+1) u (t.set s (u i))
def Br(a:Act)(S:List Nat)(u:Nat->Value):Act:={tmps:=(Bi S 0 u a.tmps.toList).toArray,defers:=a.defers}
theorem Mr:∀(S:List Nat) (i:Nat) (u:Nat->Value) (t:List Value),(∀k s,S[k]?=some s->u (i+k)=t.getD s undef)->Bi S i u t=t
 |[],_,_,_,_=>rfl
 |s::S,i,u,t,h=>by
  have h0:u i=t.getD s undef:=by simpa using h 0 s rfl
  have e:t.set s (u i)=t:=by
   rw[h0]
   apply List.ext_getElem?
   intro j
   by_cases hj:s=j
   ·subst hj
    by_cases hl:s<t.length
    ·simp[List.getD,hl]
    simp[hl]
   simp[hj]
  rw[Bi,e]
  exact Mr S (i+1) u t fun k s' hk=>by
   have:=h (k+1) s' (by simpa using hk)
   rwa [show i+1+k=i+(k+1)by omega]
theorem Kx:∀(S:List Nat) (i:Nat) (u v:Nat->Value) (t:List Value),(∀j,i<=j->u j=v j)->Bi S i u t=Bi S i v t
 |[],_,_,_,_,_=>rfl
 |s::S,i,u,v,t,h=>by
  rw[Bi,Bi,h i (Ap _)]
  exact Kx S (i+1) u v _ fun j hj=>h j (by omega)
theorem P9:∀(S:List Nat) (i:Nat) (u:Nat->Value) (t:List Value) (s:Nat) (v:Value),s∉S->(Bi S i u t).set s v=Bi S i u (t.set s v)
 |[],_,_,_,_,_,_=>rfl
 |s'::S,i,u,t,s,v,h=>by
  have h1:s≠s':=fun e=>h (by simp[e])
  rw[Bi,Bi,P9 S (i+1) u _ s v (fun hm=>h (by simp[hm]))]
  congr 1
  exact(List.set_comm _ _ h1).symm
theorem No:∀(S:List Nat) (i:Nat) (u:Nat->Value) (t:List Value) (k s:Nat) (v:Value),S.Nodup->S[k]?=some s->(Bi S i u t).set s v=Bi S i (fun j=>if j=i+k then v else u j) t
 |[],_,_,_,k,s,v,_,h=>by simp at h
 |s'::S,i,u,t,0,s,v,hn,h=>by
  simp at h
  subst h
  rw[Bi,Bi,P9 S (i+1) u _ s' v (List.nodup_cons.1 hn).1]
  rw[if_pos (by omega),List.set_set]
  exact Kx S (i+1) u _ _ fun j hj=>by rw[if_neg (by omega)]
 |s'::S,i,u,t,k+1,s,v,hn,h=>by
  simp at h
  rw[Bi,Bi,No S (i+1) u _ k s v (List.nodup_cons.1 hn).2 h,if_neg (by omega)]
  rw[show i+1+k=i+(k+1)by omega]
theorem Nb:∀(S:List Nat) (i:Nat) (u:Nat->Value) (t:List Value) (k s:Nat) (v:Value),S[k]?=some s->t.length<=s->Bi S i u t=Bi S i (fun j=>if j=i+k then v else u j) t
 |[],_,_,_,k,s,v,h,_=>by simp at h
 |s'::S,i,u,t,0,s,v,h,hl=>by
  simp at h
  subst h
  rw[Bi,Bi,List.set_eq_of_length_le hl,List.set_eq_of_length_le hl]
  exact Kx S (i+1) u _ _ fun j hj=>by rw[if_neg (by omega)]
 |s'::S,i,u,t,k+1,s,v,h,hl=>by
  simp at h
  rw[Bi,Bi,Nb S (i+1) u _ k s v h (by simpa using hl),if_neg (by omega)]
  rw[show i+1+k=i+(k+1)by omega]
def Gg(n:Nat):List Oper->List Nat->Bool
 |[],[]=>true
 |o::os,s::S=>(match o.dst with|some d=>d == s|none=>decide (n<=s)) && !S.contains s && Gg n os S
 |_,_=>false
theorem Mq{n:Nat}:∀{os:List Oper} {S:List Nat},Gg n os S=true->S.Nodup/\∀(i:Nat) (o:Oper),os[i]?=some o->∃s,S[i]?=some s/\(o.dst=some s\/(o.dst=none/\n<=s))
 |[],[],_=>⟨List.nodup_nil,fun i o h=>by simp at h⟩
 |[],_::_,h=>by simp[Gg]at h
 |_::_,[],h=>by simp[Gg]at h
 |o::os,s::S,h=>by
  simp only[Gg,Bool.and_eq_true]at h
  obtain⟨⟨h1,h2⟩,h3⟩:=h
  obtain⟨hn,hs⟩:=Mq h3
  refine⟨List.nodup_cons.2 ⟨by simpa using h2,hn⟩,fun i o' ho=>?_⟩
  cases i with
  |zero=>
   simp at ho
   subst ho
   refine⟨s,rfl,?_⟩
   cases hd:o.dst with
   |some d=>rw[hd]at h1;simp at h1;exact .inl (by rw[h1])
   |none=>rw[hd]at h1;simp at h1;exact .inr ⟨rfl,h1⟩
  |succ i=>simpa using hs i o' (by simpa using ho)
theorem Gf{id:Nat}{a:Act}{w:World}(S:List Nat)(hm:P.follows .mixedOrders=true)(hac:(List.range ops.size).all (fun i=>((ops[i]?).map fun o=>o.after.all fun e=>!Region.binds .any e || decide (e.on<i)).getD true)=true)
  (hS:Gg a.tmps.size ops.toList S=true) {mk:(Nat->Value)->Act} (hmk:∀u,Br a S u=mk u)
  (φ:Nat->Value->World->Prop) (R:(Nat->Bool)->World->Prop) (Rel:World->World->Prop)
  (hst:∀w w',Rel w w'->∀i v,φ i v w->φ i v w')
  (h0:R (fun _=>false) w.drew)
  (hstep:Aq (fun i o=>∀(l:Nat->Bool) u w,l i=false->(∀e∈o.after,Region.binds .any e=true->l e.on=true/\φ e.on (u e.on) w)->R l w ->
   ∀K:Act->World->Prop,(∀v w' a',φ i v w'->Rel w w'->R (fun j=>if j=i then true else l j) w'->a'=(mk u).put o.dst v->K a' w') ->
    if Region.wanted o (yielded ops (mk u).tmps)=true then Oper.wp P o (mk u) w K Q else K ((mk u).put o.dst undef) w) 0 ops.toList)
  (hdone:∀(l:Nat->Bool) u w,(∀i,i<ops.size->l i=true)->(∀i,i<ops.size->φ i (u i) w)->R l w->Q .normal (mk u) w):(Code.region id ops true).wp P Q a w:=by
 obtain rfl:Br a S=mk:=funext hmk
 obtain⟨hn,hs⟩:=Mq hS
 refine Vh hm hac (Br a S) (fun i=>a.tmps.toList.getD (S.getD i 0) undef) ?_ φ R Rel ?_ hst h0 hstep hdone
 ·unfold Br
  rw[Mr S 0 _ _ fun k s hk=>by simp[List.getD,hk]]
 intro i o ho u v
 rw[Nat.zero_add]
 obtain⟨s,hsi,hd|⟨hd,hb⟩⟩:=hs i o ho
 ·have e:=No S 0 u a.tmps.toList i s v hn hsi
  rw[Nat.zero_add]at e
  unfold Br Act.put
  rw[hd]
  simp only[<-e]
  congr 1
  simp
 have e:=Nb S 0 u a.tmps.toList i s v hsi (by simpa using hb)
 rw[Nat.zero_add]at e
 unfold Br Act.put
 rw[hd]
 simp only[<-e]
end
section
variable {P:Program} {ops:Array Oper} {Q:Exit->Act->World->Prop}
theorem Be{id:Nat}{a:Act}{w:World}(S:List Nat)(hm:P.follows .mixedOrders=true)(hac:(List.range ops.size).all (fun i=>((ops[i]?).map fun o=>o.after.all fun e=>!Region.binds .any e || decide (e.on<i)).getD true)=true)
  (hS:Gg a.tmps.size ops.toList S=true) {mk:(Nat->Value)->Act} (hmk:∀u,Br a S u=mk u)
  (φ:Nat->Value->World->Prop) (R:(Nat->Bool)->(Nat->Value)->World->Prop) (Rel:World->World->Prop)
  (hst:∀w w',Rel w w'->∀i v,φ i v w->φ i v w')
  (h0:R (fun _=>false) (fun i=>a.tmps.toList.getD (S.getD i 0) undef) w.drew)
  (hstep:Aq (fun i o=>∀(l:Nat->Bool) u w,l i=false->(∀e∈o.after,Region.binds .any e=true->l e.on=true/\φ e.on (u e.on) w)->R l u w ->
   (∀j,l j=false->u j=a.tmps.toList.getD (S.getD j 0) undef)->(∀(j:Nat) (o:Oper),ops[j]?=some o->∀e∈o.after,Region.binds .any e=true->l e.on=false->l j=false) ->
   ∀K:Act->World->Prop,(∀v w' a',φ i v w'->Rel w w'->R (fun j=>if j=i then true else l j) (fun j=>if j=i then v else u j) w'->a'=(mk u).put o.dst v->K a' w') ->
    if Region.wanted o (yielded ops (mk u).tmps)=true then Oper.wp P o (mk u) w K Q else K ((mk u).put o.dst undef) w) 0 ops.toList)
  (hdone:∀(l:Nat->Bool) u w,(∀i,i<ops.size->l i=true)->(∀i,i<ops.size->φ i (u i) w)->R l u w->Q .normal (mk u) w):(Code.region id ops true).wp P Q a w:=by
 obtain rfl:Br a S=mk:=funext hmk
 obtain⟨hn,hs⟩:=Mq hS
 have hput:∀(i:Nat) (o:Oper),ops.toList[i]?=some o->∀u v,(Br a S u).put o.dst v=Br a S (fun j=>if j=i then v else u j):=by
  intro i o ho u v
  obtain⟨s,hsi,hd|⟨hd,hb⟩⟩:=hs i o ho
  ·have e:=No S 0 u a.tmps.toList i s v hn hsi
   rw[Nat.zero_add]at e
   unfold Br Act.put
   rw[hd]
   simp only[<-e]
   congr 1
   simp
  have e:=Nb S 0 u a.tmps.toList i s v hsi (by simpa using hb)
  rw[Nat.zero_add]at e
  unfold Br Act.put
  rw[hd]
  simp only[<-e]
 have hac':∀(i:Nat) (o:Oper),ops[i]?=some o->∀e∈o.after,Region.binds .any e=true->e.on<i:=by
  intro i o ho e he hbd
  have hlt:i<ops.size:=(Array.getElem?_eq_some_iff.1 ho).1
  have h:=List.all_eq_true.1 hac i (List.mem_range.2 hlt)
  rw[ho]at h
  have:=Array.all_eq_true_iff_forall_mem.1 h e he
  simpa [hbd]using this
 refine wp_region_any hm ?_
 refine Xe hac' (fun l b w=>∃u,b=Br a S u/\(∀i,l i=true->i<ops.size->φ i (u i) w)/\R l u w/\(∀j,l j=false->u j=a.tmps.toList.getD (S.getD j 0) undef) /\
   (∀(j:Nat) (o:Oper),ops[j]?=some o->∀e∈o.after,Region.binds .any e=true->l e.on=false->l j=false)) ?_ ?_ ops.size _ a _ (by simp) (by
  unfold Ql
  exact Nat.le_trans (List.length_filter_le _ _) (by simp)) ⟨fun i=>a.tmps.toList.getD (S.getD i 0) undef,?_,?_,?_,fun _ _=>rfl,?_⟩
 ·rintro l b w i o ho hl hpre ⟨u,rfl,hφ,hR,hi,hdn⟩
  have ho':ops.toList[i]?=some o:=by simpa using ho
  have hp:=hput i o ho'
  have hs':=hstep i o ho'
  rw[Nat.zero_add]at hs'
  refine wpOp_step ho fun K' hK'=>?_
  refine hs' l u w hl (fun e he hb=>⟨hpre e he hb,hφ e.on (hpre e he hb) ?_⟩) hR hi hdn K' (fun v w' a' hv hrel hR' ha'=>hK' _ _ ⟨_,ha'.trans (hp u v),fun j hj hjs=>?_,hR',fun j hj=>?_,fun j o' hj e he hb hle=>?_⟩)
  ·have:=hac' i o ho e he hb
   have:=(Array.getElem?_eq_some_iff.1 ho).1
   omega
  ·by_cases hji:j=i
   ·subst hji;simpa using hv
   have hj':l j=true:=by simpa [hji]using hj
   simpa [hji]using hst w w' hrel j _ (hφ j hj' hjs)
  ·by_cases hji:j=i
   ·subst hji;simp at hj
   have hj':l j=false:=by simpa [hji]using hj
   simpa [hji]using hi j hj'
  have hne:e.on≠i:=by rintro rfl;simp at hle
  have hle':l e.on=false:=by simpa [hne]using hle
  have hlj:=hdn j o' hj e he hb hle'
  have hji:j≠i:=by
   rintro rfl
   rw[ho]at hj
   injection hj with hj
   subst hj
   rw[hpre e he hb]at hle'
   cases hle'
  simpa [hji]using hlj
 ·rintro l b w hl ⟨u,rfl,hφ,hR,_,_⟩
  exact hdone l u w hl (fun i hi=>hφ i (hl i hi) hi) hR
 ·unfold Br
  rw[Mr S 0 _ _ fun k s hk=>by simp[List.getD,hk]]
 ·intro i hi
  simp[Array.getD]at hi
 ·have e:(fun j=>(Array.replicate ops.size false).getD j false)=fun _=>false:=by
   funext j
   simp[Array.getD]
  rw[e];exact h0
 intro j o hj e he hb _
 simp[Array.getD]
end
theorem Bz{ops:Array Oper}{l:Nat->Bool}(h:∀(j:Nat) (o:Oper),ops[j]?=some o->∀e∈o.after,Region.binds .any e=true->l e.on=false->l j=false)(j i:Nat)(hc:((ops[j]?).map fun o=>o.after.toList.any fun e=>decide (e.on=i) && Region.binds .any e)=some true)(hi:l i=false):l j=false:=by
 cases ho:ops[j]? with
 |none=>rw[ho]at hc;cases hc
 |some o=>
  rw[ho]at hc
  have hc:(o.after.toList.any fun e=>decide (e.on=i) && Region.binds .any e)=true:=by injection hc
  obtain⟨e,he,h2⟩:=List.any_eq_true.1 hc
  rw[Bool.and_eq_true,decide_eq_true_iff]at h2
  obtain⟨rfl,h3⟩:=h2
  exact h j o ho e (by simpa using he) h3 hi
theorem rgE{P:Program}{ops:Array Oper}{Q:Exit->Act->World->Prop}{id:Nat}{a:Act}{w:World}(S:List Nat){mk:(Nat->Value)->Act}
  (φ:Nat->Value->World->Prop) (R:(Nat->Bool)->(Nat->Value)->World->Prop)
  (h0:R (fun _=>false) (fun i=>a.tmps.toList.getD (S.getD i 0) undef) w.drew)
  (hstep:Aq (fun i o=>∀(l:Nat->Bool) u w,l i=false->(∀e∈o.after,Region.binds .any e=true->l e.on=true/\φ e.on (u e.on) w)->R l u w ->
   (∀j,l j=false->u j=a.tmps.toList.getD (S.getD j 0) undef)->(∀(j:Nat) (o:Oper),ops[j]?=some o->∀e∈o.after,Region.binds .any e=true->l e.on=false->l j=false) ->
   ∀K:Act->World->Prop,(∀v w' a',φ i v w'->True->R (fun j=>if j=i then true else l j) (fun j=>if j=i then v else u j) w'->a'=(mk u).put o.dst v->K a' w') ->
    if Region.wanted o (yielded ops (mk u).tmps)=true then Oper.wp P o (mk u) w K Q else K ((mk u).put o.dst undef) w) 0 ops.toList)
  (hdone:∀(l:Nat->Bool) u w,(∀i,i<ops.size->l i=true)->(∀i,i<ops.size->φ i (u i) w)->R l u w->Q .normal (mk u) w)
  (hc:(P.follows .mixedOrders && (List.range ops.size).all (fun i=>((ops[i]?).map fun o=>o.after.all fun e=>!Region.binds .any e || decide (e.on<i)).getD true) && Gg a.tmps.size ops.toList S)=true:=by kernel_rfl) (hst:∀w w':World,True->∀i v,φ i v w->φ i v w':=by exact fun _ _ _ _ _ h=>h) (hmk:∀u,Br a S u=mk u:=by intro u;dsimp only[Br,Bi,List.set,Nat.zero_add,Nat.reduceAdd]):(Code.region id ops true).wp P Q a w:=
 have h1:=Bool.and_eq_true_iff.1 hc
 have h2:=Bool.and_eq_true_iff.1 h1.1
 Be S h2.1 h2.2 h1.2 hmk φ R (fun _ _=>True) hst h0 hstep hdone
theorem P3{P:Program}{ops:Array Oper}{Q:Exit->Act->World->Prop}{id:Nat}{a:Act}{w:World}(S:List Nat){mk:(Nat->Value)->Act}
  (φ:Nat->Value->World->Prop) (R:(Nat->Bool)->(Nat->Value)->World->Prop)
  (h0:R (fun _=>false) (fun i=>a.tmps.toList.getD (S.getD i 0) undef) w.drew)
  (hstep:Aq (fun i o=>∀(l:Nat->Bool) u w,l i=false->(∀e∈o.after,Region.binds .any e=true->l e.on=true/\φ e.on (u e.on) w)->Hid (R l u w)->Hid (∀(j:Nat) (o:Oper),ops[j]?=some o->∀e∈o.after,Region.binds .any e=true->l e.on=false->l j=false) ->
   ∀K:Act->World->Prop,(∀v w' a',φ i v w'->True->R (fun j=>if j=i then true else l j) (fun j=>if j=i then v else u j) w'->a'=(mk u).put o.dst v->K a' w') ->
    if Region.wanted o (yielded ops (mk u).tmps)=true then Oper.wp P o (mk u) w K Q else K ((mk u).put o.dst undef) w) 0 ops.toList)
  (hdone:∀(l:Nat->Bool) u w,(∀i,i<ops.size->l i=true)->(∀i,i<ops.size->φ i (u i) w)->R l u w->Q .normal (mk u) w)
  (hc:(P.follows .mixedOrders && (List.range ops.size).all (fun i=>((ops[i]?).map fun o=>o.after.all fun e=>!Region.binds .any e || decide (e.on<i)).getD true) && Gg a.tmps.size ops.toList S)=true:=by kernel_rfl) (hst:∀w w':World,True->∀i v,φ i v w->φ i v w':=by exact fun _ _ _ _ _ h=>h) (hmk:∀u,Br a S u=mk u:=by intro u;dsimp only[Br,Bi,List.set,Nat.zero_add,Nat.reduceAdd]):(Code.region id ops true).wp P Q a w:=
 have h1:=Bool.and_eq_true_iff.1 hc
 have h2:=Bool.and_eq_true_iff.1 h1.1
 Be S h2.1 h2.2 h1.2 hmk φ R (fun _ _=>True) hst h0 (fun i o ho l u w h1 h2 hR _ hd=>hstep i o ho l u w h1 h2 hR hd) hdone
theorem kE{φ R:Value->World->Prop}{f:Value->Act}{K:Act->World->Prop}(hK:∀v w' a',φ v w'->True->R v w'->a'=f v->K a' w'){v:Value}{w':World}{a':Act}(h:R v w')(h1:φ v w':=by first|exact rfl|exact True.intro)(h2:a'=f v:=by first|exact rfl|(simp[Act.put,hpre];done)|(simp[Act.put,hpre];exact rfl))(h3:v=v:=by first|exact @rfl _ undef|exact rfl):K a' w':=hK v w' a' h1 True.intro h h2
theorem Mz{a b:Bool}(h:a=false->b=false)(l:b=true):a=true:=by
 cases a with
 |true=>rfl
 |false=>rw[h rfl]at l;cases l
def C7:List (Value->Prop)->Nat->Value->Prop
 |[],_,_=>True
 |p::_,0,v=>p v
 |_::ps,n+1,v=>C7 ps n v
def Yr:List (Value->Prop)->Nat->(Nat->Value)->Prop
 |[],_,_=>True
 |p::ps,i,u=>p (u i)/\Yr ps (i+1) u
theorem Qcl:∀(ps:List (Value->Prop)) (i:Nat) (u:Nat->Value),(∀j,j<ps.length->C7 ps j (u (i+j)))->Yr ps i u
 |[],_,_,_=>Ab
 |p::ps,i,u,h=>⟨h 0 (by simp),Qcl ps (i+1) u fun j hj=>by
  have:=h (j+1) (by simp;omega)
  rwa [show i+(j+1)=i+1+j by omega]at this⟩
theorem Qag:∀(ps qs:List (Value->Prop)) (j:Nat) (v:Value),j<ps.length->C7 (ps++qs) j v=C7 ps j v
 |[],_,_,_,h=>by simp at h
 |p::ps,_,0,_,_=>rfl
 |p::ps,qs,j+1,v,h=>Qag ps qs j v (by simpa using h)
theorem Qak:∀(ps:List (Value->Prop)) (p:Value->Prop) (v:Value),C7 (ps++[p]) ps.length v=p v
 |[],_,_=>rfl
 |_::ps,p,v=>Qak ps p v
def Qh6(ops:Array Oper)(j i:Nat):Bool:=((ops[j]?).map fun o=>o.after.toList.any fun e=>decide (e.on=i) && Region.binds .any e).getD false
section
variable {P:Program} {ops:Array Oper} {Q:Exit->Act->World->Prop} {a:Act} {mk:(Nat->Value)->Act} {R:(Nat->Bool)->(Nat->Value)->World->Prop} {G:World->Prop}
def Ec:List Oper->List Nat
 |[]=>[]
 |o::os=>(match o.dst with|some d=>d|none=>100000+os.length)::Ec os
def St(P:Program)(ops:Array Oper)(Q:Exit->Act->World->Prop)(a:Act)(mk:(Nat->Value)->Act)(R:(Nat->Bool)->(Nat->Value)->World->Prop)(G:World->Prop)(i:Nat)(o:Oper)(ps:List (Value->Prop))(p:Value->Prop):Prop:=
 ∀(l:Nat->Bool) (u:Nat->Value) (W:World),l i=false->(∀e∈o.after,Region.binds .any e=true->l e.on=true/\C7 ps e.on (u e.on))->Hid (R l u W)->G W->Hid (∀j,Qh6 ops j i=true->l j=false/\u j=a.tmps.toList.getD ((Ec ops.toList).getD j 0) undef) ->
  ∀K:Act->World->Prop,(∀v w' a',p v->R (fun j=>if j=i then true else l j) (fun j=>if j=i then v else u j) w'->a'=(mk u).put o.dst v->K a' w') ->
   if Region.wanted o (yielded ops (mk u).tmps)=true then Oper.wp P o (mk u) W K Q else K ((mk u).put o.dst undef) W
def Sq(P:Program)(ops:Array Oper)(Q:Exit->Act->World->Prop)(a:Act)(mk:(Nat->Value)->Act)(R:(Nat->Bool)->(Nat->Value)->World->Prop)(G:World->Prop):List Oper->Nat->List (Value->Prop)->Prop
 |[],n,ps=>∀l u W,(∀i,i<n->l i=true)->Yr ps 0 u->R l u W->Q .normal (mk u) W
 |o::os,i,ps=>∃p,St P ops Q a mk R G i o ps p/\Sq P ops Q a mk R G os (i+1) (ps++[p])
theorem Sq.all:∀(os:List Oper) (i:Nat) (ps:List (Value->Prop)),ps.length=i->Sq P ops Q a mk R G os i ps ->
  ∃qs:List (Value->Prop),qs.length=os.length/\(∀j o,os[j]?=some o->St P ops Q a mk R G (i+j) o ((ps++qs).take (i+j)) (C7 (ps++qs) (i+j)))/\∀l u W,(∀j,j<i+os.length->l j=true)->Yr (ps++qs) 0 u->R l u W->Q .normal (mk u) W
 |[],i,ps,hl,h=>⟨[],rfl,by simp,by simpa [Sq]using h⟩
 |o::os,i,ps,hl,⟨p,h1,h2⟩=>by
  obtain⟨qs,e,h3,h4⟩:=Sq.all os (i+1) (ps++[p]) (by simp[hl]) h2
  refine⟨p::qs,by simp[e],fun j o' ho=>?_,fun l u W hl'=>?_⟩
  ·cases j with
   |zero=>
    simp at ho
    subst ho
    have e1:(ps++p::qs).take (i+0)=ps:=by rw[Nat.add_zero,<-hl];simp
    have e2:C7 (ps++p::qs) (i+0)=p:=by
     funext v
     rw[Nat.add_zero,show ps++p::qs=(ps++[p])++qs by simp,Qag _ _ _ _ (by simp;omega),<-hl,Qak]
    rw[e1,e2]
    exact h1
   |succ j=>
    simp at ho
    have:=h3 j o' ho
    rw[List.append_assoc,List.singleton_append,show i+1+j=i+(j+1)by omega]at this
    exact this
  have:=h4 l u W fun j hj=>hl' j (by simp only[List.length_cons];omega)
  rwa [List.append_assoc,List.singleton_append]at this
theorem V9:∀(ps:List (Value->Prop)) (i j:Nat) (v:Value),j<i->C7 (ps.take i) j v=C7 ps j v
 |[],_,_,_,_=>by simp
 |p::ps,0,_,_,h=>absurd h (by omega)
 |p::ps,i+1,0,_,_=>rfl
 |p::ps,i+1,j+1,v,h=>V9 ps i j v (by omega)
theorem rgF{id:Nat}{w:World}(R:(Nat->Bool)->(Nat->Value)->World->Prop)(G:World->Prop)(hG:∀l u W,R l u W->G W)(h0:R (fun _=>false) (fun i=>a.tmps.toList.getD ((Ec ops.toList).getD i 0) undef) w.drew)(h:Sq P ops Q a mk R G ops.toList 0 [])
  (hc:(P.follows .mixedOrders && (List.range ops.size).all (fun i=>((ops[i]?).map fun o=>o.after.all fun e=>!Region.binds .any e || decide (e.on<i)).getD true) && Gg a.tmps.size ops.toList (Ec ops.toList))=true:=by kernel_rfl)
  (hmk:∀u,Br a (Ec ops.toList) u=mk u:=by intro u;dsimp only[Br,Ec,Bi,List.set,Nat.zero_add,Nat.reduceAdd,List.length_cons,List.length_nil]):(Code.region id ops true).wp P Q a w:=by
 have h1:=Bool.and_eq_true_iff.1 hc
 have h2:=Bool.and_eq_true_iff.1 h1.1
 obtain⟨qs,e,h3,h4⟩:=Sq.all ops.toList 0 [] rfl h
 rw[List.nil_append]at h3 h4
 have hac:=h2.2
 refine Be (Ec ops.toList) h2.1 hac h1.2 hmk (fun i v _=>C7 qs i v) R (fun _ _=>True) (fun _ _ _ _ _ h=>h) h0 ?_ ?_
 ·intro i o ho l u W hl hp hF hun hdep K hK
  simp only[Nat.zero_add]at *
  have hs:=h3 i o ho
  refine hs l u W hl (fun e he hb=>⟨(hp e he hb).1,?_⟩) hF (hG l u W hF) (fun j hj=>?_) K fun v w' a' hv hF' ha=>hK v w' a' hv Ab hF' ha
  ·have ho':ops[i]?=some o:=by simpa using ho
   have hlt:i<ops.size:=(Array.getElem?_eq_some_iff.1 ho').1
   have hh:=List.all_eq_true.1 hac i (List.mem_range.2 hlt)
   rw[ho']at hh
   have h5:=Array.all_eq_true_iff_forall_mem.1 hh e he
   have h6:e.on<i:=by simpa [hb]using h5
   rw[V9 _ _ _ _ h6]
   exact(hp e he hb).2
  unfold Qh6 at hj
  cases hjo:ops[j]? with
  |none=>rw[hjo]at hj;cases hj
  |some o'=>
   rw[hjo]at hj
   simp only[Option.map_some,Option.getD_some]at hj
   obtain⟨e,he,h5⟩:=List.any_eq_true.1 hj
   rw[Bool.and_eq_true,decide_eq_true_iff]at h5
   obtain⟨rfl,h6⟩:=h5
   have:=hdep j o' hjo e (by simpa using he) h6 hl
   exact⟨this,hun j this⟩
 intro l u W hl hφ hF
 exact h4 l u W (fun j hj=>hl j (by rw[<-Array.length_toList];omega)) (Qcl _ _ _ fun j hj=>by rw[Nat.zero_add];exact hφ j (by rw[<-Array.length_toList];omega)) hF
def Ei(w W:World):Prop:=∀b o k,b<w.heap.size->W.cell? ⟨b,o,k⟩=w.cell? ⟨b,o,k⟩
theorem Gi{w W:World}(h:Below w.heap.size w W):Ei w W:=fun b o k hb=>h.cell (p:=⟨b,o,k⟩) hb
theorem rgB{id:Nat}{w:World}(h:Sq P ops Q a mk (fun _ _=>Below w.heap.size w) (Ei w) ops.toList 0 [])
  (hc:(P.follows .mixedOrders && (List.range ops.size).all (fun i=>((ops[i]?).map fun o=>o.after.all fun e=>!Region.binds .any e || decide (e.on<i)).getD true) && Gg a.tmps.size ops.toList (Ec ops.toList))=true:=by kernel_rfl)
  (hmk:∀u,Br a (Ec ops.toList) u=mk u:=by intro u;dsimp only[Br,Ec,Bi,List.set,Nat.zero_add,Nat.reduceAdd,List.length_cons,List.length_nil]):(Code.region id ops true).wp P Q a w:=
 rgF (fun _ _=>Below w.heap.size w) (Ei w) (fun _ _ _ h=>Gi h) (As _ _).drew h hc hmk
theorem rgD{id:Nat}{w:World}(h:Sq P ops Q a mk (fun _ _ W=>∃k,W=w.drewN k) (fun W=>∀p,W.cell? p=w.cell? p) ops.toList 0 [])
  (hc:(P.follows .mixedOrders && (List.range ops.size).all (fun i=>((ops[i]?).map fun o=>o.after.all fun e=>!Region.binds .any e || decide (e.on<i)).getD true) && Gg a.tmps.size ops.toList (Ec ops.toList))=true:=by kernel_rfl)
  (hmk:∀u,Br a (Ec ops.toList) u=mk u:=by intro u;dsimp only[Br,Ec,Bi,List.set,Nat.zero_add,Nat.reduceAdd,List.length_cons,List.length_nil]):(Code.region id ops true).wp P Q a w:=
 rgF (fun _ _ W=>∃k,W=w.drewN k) (fun W=>∀p,W.cell? p=w.cell? p) (fun _ _ W h p=>by obtain⟨k,rfl⟩:=h;rfl) ⟨1,rfl⟩ h hc hmk
section
variable {o:Oper} {os:List Oper} {i:Nat} {ps:List (Value->Prop)} {v:Value}
theorem sq(k:Sq P ops Q a mk R G os (i+1) (ps++[fun x=>x=v]))(h:St P ops Q a mk R G i o ps (fun x=>x=v):=by
  intro l u W hl hp hF hG hi K hK
  first|unfold Ei at hG|skip
  first|(simp[Region.binds,C7]at hp;done)|simp[Region.binds,C7]at hp|clear hp
  go_simp
  exact hK _ _ _ rfl hF.o (by first|rfl|(simp[Act.put,hp];done)|(simp[Act.put,hp];exact rfl))):Sq P ops Q a mk R G (o::os) i ps:=⟨_,h,k⟩
theorem sqI(J:Nat)(k:Sq P ops Q a mk R G os (i+1) (ps++[fun x=>x=v]))(h:∀j,j=J->St P ops Q a mk R G i o ps (fun x=>x=v):=by
  intro j hj l u W hl hp hF hG hi K hK
  have hq:=(hi.o j (by rw[hj];rfl)).2
  rw[hj]at hq
  simp[Ec]at hq
  first|unfold Ei at hG|skip
  first|(simp[Region.binds,C7]at hp;done)|simp[Region.binds,C7]at hp|clear hp
  go_simp
  exact hK _ _ _ rfl hF.o (by first|rfl|(simp[Act.put,hq];done)|(simp[Act.put,hq];exact rfl)|(simp[Act.put,hp,hq];done)|(simp[Act.put,hp,hq];exact rfl))):Sq P ops Q a mk R G (o::os) i ps:=⟨_,h J rfl,k⟩
theorem sqC{C:World->Prop}{n:Nat}{w:World}(X:∀W,Below n w W->C W)(k:Sq P ops Q a mk (fun _ _=>Below n w) G os (i+1) (ps++[fun x=>x=v]))(h:(∀W,Below n w W->C W)->St P ops Q a mk (fun _ _=>Below n w) G i o ps (fun x=>x=v):=by
  intro X l u W hl hp hF hG hi K hK
  have HX:=X W hF.o
  first|unfold Ei at hG|skip
  first|(simp[Region.binds,C7]at hp;done)|simp[Region.binds,C7]at hp|clear hp
  go_simp
  refine HX.mono ?_
  rintro e w' ⟨rfl,hb⟩
  exact hK _ _ _ rfl (hF.o.trans (hb.mono hF.o.size)) (by first|rfl|(simp[Act.put,hp];done)|(simp[Act.put,hp];exact rfl))):Sq P ops Q a mk (fun _ _=>Below n w) G (o::os) i ps:=⟨_,h X,k⟩
theorem sqD{C:World->Prop}{w:World}(X:∀W,(∃k,W=w.drewN k)->C W)(k:Sq P ops Q a mk (fun _ _ W=>∃k,W=w.drewN k) G os (i+1) (ps++[fun x=>x=v]))(h:(∀W,(∃k,W=w.drewN k)->C W)->St P ops Q a mk (fun _ _ W=>∃k,W=w.drewN k) G i o ps (fun x=>x=v):=by
  intro X l u W hl hp hF hG hi K hK
  have HX:=X W hF.o
  first|(simp[Region.binds,C7]at hp;done)|simp[Region.binds,C7]at hp|clear hp
  go_simp
  refine HX.mono ?_
  rintro e w' ⟨rfl,k',rfl⟩
  obtain⟨k,rfl⟩:=hF.o
  exact hK _ _ _ rfl ⟨k+k',by simp[World.drewN,Nat.add_assoc]⟩ (by first|rfl|(simp[Act.put,hp];done)|(simp[Act.put,hp];exact rfl))):Sq P ops Q a mk (fun _ _ W=>∃k,W=w.drewN k) G (o::os) i ps:=⟨_,h X,k⟩
theorem Ku(p:Value->Prop)(h:St P ops Q a mk R G i o ps p)(k:Sq P ops Q a mk R G os (i+1) (ps++[p])):Sq P ops Q a mk R G (o::os) i ps:=⟨_,h,k⟩
theorem dn{b:Act}(h:∀l u W,(∀j,j<i->l j=true)->Yr ps 0 u->Hid (R l u W)->Q .normal b W)(e:∀u,Yr ps 0 u->mk u=b:=by
  intro u h
  simp only[Yr,List.nil_append,List.cons_append,Nat.zero_add,Nat.reduceAdd]at h
  simp only[h]
  exact rfl):Sq P ops Q a mk R G [] i ps:=fun l u W hl hu hF=>by rw[e u hu];exact h l u W hl hu hF
theorem dnB{b:Act}{F:World->Prop}(h:∀W,Hid (F W)->Q .normal b W)(e:∀u,Yr ps 0 u->mk u=b:=by
  intro u h
  simp only[Yr,List.nil_append,List.cons_append,Nat.zero_add,Nat.reduceAdd]at h
  simp only[h]
  exact rfl):Sq P ops Q a mk (fun _ _=>F) G [] i ps:=fun l u W hl hu hF=>by rw[e u hu];exact h W hF
end
end
theorem Ar{B:Nat}{w w':World}{b o:Nat}{cs:List Value}(h:w.rangeAt b o cs)(hb:b<B)(hw:Below B w w'):w'.rangeAt b o cs:=fun j v hv=>(hw.cell (p:=⟨b,o+j,none⟩) hb).trans (h j v hv)
theorem At{B:Nat}{w w':World}{b o n:Nat}(h:w.there b o n)(hb:b<B)(hw:Below B w w'):w'.there b o n:=fun j hj=>by
 rw[hw.cell (p:=⟨b,o+j,none⟩) hb,hw.frozen (p:=⟨b,o+j,none⟩) hb];exact h j hj
theorem Fz{w w':World}{b o:Nat}{cs:List Value}{row:Option Nat}(h:w.rangeAt b o cs)(hg:w.grownBy w' row)(hne:some b≠row):w'.rangeAt b o cs:=fun j v hv=>hg.cell (h j v hv) hne
theorem Gq{w w':World}{b o n:Nat}{row:Option Nat}(h:w.there b o n)(hg:w.grownBy w' row)(hb:b<w.heap.size)(hne:some b≠row):w'.there b o n:=fun j hj=>by
 rw[hg.cell_far ⟨b,o+j,none⟩ hb hne,hg.frozen_far ⟨b,o+j,none⟩ hb hne];exact h j hj
theorem Mj{w:World}{b o n:Nat}(h:w.there b o n)(p m:Nat)(h1:o<=p)(h2:p+m<=o+n):w.there b p m:=fun j hj=>by
 have:=h (p+j - o) (by omega)
 rwa [show o+(p+j - o)=p+j by omega]at this
theorem Ck(w:World)(cs:List Value)(t:TypeId):(w.alloc (.cells cs.toArray t)).rangeAt w.heap.size 0 cs:=fun j v hv=>by
 rw[World.cell?_alloc_new];simpa using hv
theorem Cw(w:World)(cs:List Value)(t:TypeId):(w.alloc (.cells cs.toArray t)).there w.heap.size 0 cs.length:=fun j hj=>by
 refine⟨?_,by simp⟩
 rw[World.cell?_alloc_new];simp;omega
theorem Ah{B:Nat}{a:World}(b:Nat)(hb:B<=b):∀(vs:List Value) (o:Nat) (w:World),Below B a w->Below B a (w.setCells b o vs)
 |[],_,_,h=>h
 |v::r,o,w,h=>Ah b hb r (o+1) _ (h.setCell hb v)
theorem Cy(b:Nat):∀(vs:List Value) (o:Nat) (w:World),(w.setCells b o vs).heap.size=w.heap.size
 |[],_,_=>rfl
 |v::r,o,w=>by rw[World.setCells,Cy b r];simp
theorem Ac{w:World}{b o:Nat}{cs:List Value}(h:w.rangeAt b o cs)(j:Nat){v:Value}(hv:cs[j]?=some v):w.cell? ⟨b,o+j,none⟩=some v:=h j v hv
theorem Yd{w:World}{b o:Nat}(l1 l2 l3:List Value)(h:w.rangeAt b o (l1++(l2++l3))):w.rangeAt b (o+l1.length) l2:=fun j v hv=>by
 have hj:=(List.getElem?_eq_some_iff.1 hv).1
 rw[Nat.add_assoc]
 exact h _ v (by rw[List.getElem?_append_right (by omega),Nat.add_sub_cancel_left,List.getElem?_append_left hj];exact hv)
theorem Ct{w:World}{b:Nat}(l1 l2 l3 l2':List Value)(h:w.rangeAt b 0 (l1++(l2++l3)))(hl:l2'.length=l2.length):(w.setCells b l1.length l2').rangeAt b 0 (l1++(l2'++l3)):=fun j v hv=>by
 have hjl:j<l1.length+(l2'.length+l3.length):=by
  have:=(List.getElem?_eq_some_iff.1 hv).1
  simpa using this
 have hsome:∀i,i<l2'.length->(w.cell? ⟨b,l1.length+i,none⟩).isSome=true:=fun i hi=>by
  have e:(l1++(l2++l3))[l1.length+i]?=some (l2[i]'(by omega)):=by
   rw[List.getElem?_append_right (by omega),List.getElem?_append_left (by omega),Nat.add_sub_cancel_left,List.getElem?_eq_getElem (by omega)]
  have:=h _ _ e
  rw[Nat.zero_add]at this
  rw[this];rfl
 rw[Nat.zero_add]
 rcases Nat.lt_or_ge j l1.length with h1|h1
 ·rw[World.cell?_setCells_out b l2' l1.length w ⟨b,j,none⟩ (fun _ _=>.inl h1)]
  rw[List.getElem?_append_left h1]at hv
  have:=h j v (by rw[List.getElem?_append_left h1];exact hv)
  rwa [Nat.zero_add]at this
 rw[List.getElem?_append_right h1]at hv
 rcases Nat.lt_or_ge (j - l1.length) l2'.length with h2|h2
 ·rw[List.getElem?_append_left h2,List.getElem?_eq_getElem h2]at hv
  have:=World.cell?_setCells_in b l2' l1.length w hsome (j - l1.length) h2
  rw[show l1.length+(j - l1.length)=j by omega]at this
  rw[this];exact hv
 rw[World.cell?_setCells_out b l2' l1.length w ⟨b,j,none⟩ (fun _ _=>.inr (by show l1.length+l2'.length<=j;omega))]
 rw[List.getElem?_append_right h2]at hv
 have:=h j v (by rw[List.getElem?_append_right h1,List.getElem?_append_right (by omega),<-hl];exact hv)
 rwa [Nat.zero_add]at this
section
variable {P:Program}
theorem Ad{ops:Array Oper}{rest:List Oper}{op:Oper}{a:Act}{w:World}{Q:Exit->Act->World->Prop}(hgd:op.guard=none)(ty:TypeId)(x y:Operand)(ho:op.op=.store ty x y)
  (b o:Nat) (cs:List Value) (hx:a.eval x=.pointer (some ⟨b,o,none⟩)) (hy:a.eval y=.agg cs.toArray)
  (ht:w.there b o cs.length) (hi:(P.info? ty).map (·.size)=some cs.length) (h1:∀v∈cs,v.oneCell'=true)
  (h:∀w',Hid (w'=w.setCells b o cs)->wpList P ops Q rest (a.put op.dst undef) w'):wpList P ops Q (op::rest) a w:=
 wpList_store_mid hgd ty x y ho b o cs.toArray hx hy (by simpa using ht) (by simpa using hi) (all_oneCell_toArray h1) (h _ rfl)
theorem Ao{fn:Func}{p q:Tmp}{ty:TypeId}(h:fn.results=#[.cell p ty,.tmp q])(tmps:Array Value)(w:World)(b:Nat)(cs:List Value)(d:TypeDesc)(x:Value)
  (hp:tmps.getD p undef=.pointer (some ⟨b,0,none⟩)) (hq:tmps.getD q undef=x) (hc:w.rangeAt b 0 cs) (hu:P.underlying ty=some d) (hd:d.isRow=true) (hi:(P.info? ty).map (·.size)=some cs.length):
  (results fn tmps).run P w=.ok (.tuple #[.agg cs.toArray,x]) w:=by
 have hp':tmps[p]?.getD undef=.pointer (some ⟨b,0,none⟩):=by simpa using hp
 have hq':tmps[q]?.getD undef=x:=by simpa using hq
 simp[results,h,hp',hq',asAddr,run_loadVar_mid w b 0 ty cs d hc hu hd hi]
theorem Fc{fn:Func}{r p q:Tmp}{ty:TypeId}(h:fn.results=#[.tmp r,.cell p ty,.tmp q])(tmps:Array Value)(w:World)(b:Nat)(cs:List Value)(d:TypeDesc)(y x:Value)
  (hr:tmps.getD r undef=y) (hp:tmps.getD p undef=.pointer (some ⟨b,0,none⟩)) (hq:tmps.getD q undef=x) (hc:w.rangeAt b 0 cs) (hu:P.underlying ty=some d) (hd:d.isRow=true) (hi:(P.info? ty).map (·.size)=some cs.length):
  (results fn tmps).run P w=.ok (.tuple #[y,.agg cs.toArray,x]) w:=by
 have hp':tmps[p]?.getD undef=.pointer (some ⟨b,0,none⟩):=by simpa using hp
 have hq':tmps[q]?.getD undef=x:=by simpa using hq
 have hr':tmps[r]?.getD undef=y:=by simpa using hr
 simp[results,h,hp',hq',hr',asAddr,run_loadVar_mid w b 0 ty cs d hc hu hd hi]
end
inductive Vl where
 |mk (what:UInt8) (text:List UInt8) (tag:Nat) (kids:List Vl)
def Vl.what:Vl->UInt8|.mk w _ _ _=>w
def Vl.text:Vl->List UInt8|.mk _ t _ _=>t
def Vl.tag:Vl->Nat|.mk _ _ g _=>g
def Vl.kids:Vl->List Vl|.mk _ _ _ k=>k
def E8(w:UInt8)(tx:List UInt8)(tg:Nat)(ps:List (List UInt8)):List UInt8:=
 if w=116 then 39::(tx++[39])
 else if w=91 then 91::(Ak 44 ps++[93])
 else if w=63 then(match ps with|[]=>[45]|_=>43::Ak 44 ps)
 else if w=61 then Aw tg++61::Ak 44 ps
 else if w=82 then 123::(Ak 44 ps++[125])
 else if w=85 then 60::(Aw tg++61::(Ak 44 ps++[62]))
 else if w=69 then 35::Aw tg
 else tx
mutual
def Az:Vl->List UInt8
 |.mk w tx tg ks=>E8 w tx tg (Dx ks)
def Dx:List Vl->List (List UInt8)
 |[]=>[]
 |x::xs=>Az x::Dx xs
end
theorem Qb:∀ks:List Vl,Dx ks=ks.map Az
 |[]=>rfl
 |x::xs=>by rw[Dx,Qb xs];rfl
mutual
def Kh:Vl->Nat
 |.mk w _ _ ks=>if w=61 then Gu ks else Gu ks+1
def Gu:List Vl->Nat
 |[]=>0
 |x::xs=>max (Kh x) (Gu xs)
end
theorem Sm:∀(ks:List Vl) (d:Nat),Gu ks<=d↔∀x∈ks,Kh x<=d
 |[],d=>by simp[Gu]
 |x::xs,d=>by rw[Gu,Nat.max_le,Sm xs d];simp
def Eb:List UInt8:=[121,101,115]
def K0:List UInt8:=[110,111]
def Dg(p:Fd × Vl):Vl:=.mk 61 [] p.1.tag [p.2]
inductive Jo(S:List Ty):Nat->Kd->Vl->Prop
 |n {d:Nat} {k:Kd} {m:Nat} (hs:k.signs=[]) (hb:k.base=[110]) (h:m<=999999):Jo S (d+1) k (.mk 110 (Aw m) 0 [])
 |t {d:Nat} {k:Kd} {s:List UInt8} (hs:k.signs=[]) (hb:k.base=[116]) (h:Dh s=true):Jo S (d+1) k (.mk 116 s 0 [])
 |f {d:Nat} {k:Kd} {b:Bool} (hs:k.signs=[]) (hb:k.base=[102]):Jo S (d+1) k (.mk 102 (if b then Eb else K0) 0 [])
 |lst {d:Nat} {k:Kd} {r:List UInt8} {ks:List Vl} (hs:k.signs=91::r) (hl:ks.length<=20) (h:∀x∈ks,Jo S d k.part x):Jo S (d+1) k (.mk 91 [] 0 ks)
 |non {d:Nat} {k:Kd} {r:List UInt8} (hs:k.signs=63::r):Jo S (d+1) k (.mk 63 [] 0 [])
 |som {d:Nat} {k:Kd} {r:List UInt8} {x:Vl} (hs:k.signs=63::r) (h:Jo S d k.part x):Jo S (d+1) k (.mk 63 [] 0 [x])
 |enm {d:Nat} {k:Kd} {t:Ty} {f:Fd} (hs:k.signs=[]) (hb:k.base=[64]) (ht:By S k.name=some t) (h9:t.sort=69) (hf:Bg t.fields f.tag=some f):Jo S (d+1) k (.mk 69 [] f.tag [])
 |uni {d:Nat} {k:Kd} {t:Ty} {f:Fd} {x:Vl} (hs:k.signs=[]) (hb:k.base=[64]) (ht:By S k.name=some t) (h5:t.sort=85) (hf:Bg t.fields f.tag=some f) (h:Jo S d f.kind x):Jo S (d+1) k (.mk 85 [] f.tag [x])
 |rcd {d:Nat} {k:Kd} {t:Ty} {fs:List (Fd × Vl)} (hs:k.signs=[]) (hb:k.base=[64]) (ht:By S k.name=some t) (h2:t.sort=82) (hf:∀p∈fs,Bg t.fields p.1.tag=some p.1) (h:∀p∈fs,Jo S d p.1.kind p.2)
   (hn:∀p∈fs,Az p.2≠Re S p.1) (hp:fs.Pairwise fun p q=>p.1.tag<q.1.tag):Jo S (d+1) k (.mk 82 [] 0 (fs.map Dg))
theorem Qgn(p:Fd × Vl):Kh (Dg p)=Kh p.2:=by simp[Dg,Kh,Gu]
theorem Gy(S:List Ty):∀(n:Nat) (k:Kd) (v:Vl),Jo S n k v->∀d,Jo S d k v↔Kh v<=d:=by
 intro n
 induction n with
 |zero=>intro k v h;cases h
 |succ n ih=>
  intro k v h d
  cases d with
  |zero=>
   constructor
   ·intro h;cases h
   intro hd;cases h<;>simp[Kh]at hd
  |succ d=>
   cases h with
   |n hs hb h=>exact⟨fun _=>by simp[Kh,Gu],fun _=>.n hs hb h⟩
   |t hs hb h=>exact⟨fun _=>by simp[Kh,Gu],fun _=>.t hs hb h⟩
   |f hs hb=>exact⟨fun _=>by simp[Kh,Gu],fun _=>.f hs hb⟩
   |non hs=>exact⟨fun _=>by simp[Kh,Gu],fun _=>.non hs⟩
   |enm hs hb ht h9 hf=>exact⟨fun _=>by simp[Kh,Gu],fun _=>.enm hs hb ht h9 hf⟩
   |@lst _ _ r ks hs hl h=>
    have e:Kh (.mk 91 [] 0 ks)<=d+1↔∀x∈ks,Kh x<=d:=by rw[<-Sm];simp[Kh]
    rw[e]
    constructor
    ·intro hv x hx
     cases hv with
     |lst _ _ h2=>exact(ih _ _ (h x hx) d).1 (h2 x hx)
    intro hv;exact .lst hs hl fun x hx=>(ih _ _ (h x hx) d).2 (hv x hx)
   |@som _ _ r x hs h=>
    have e:Kh (.mk 63 [] 0 [x])<=d+1↔Kh x<=d:=by simp[Kh,Gu]
    rw[e]
    constructor
    ·intro hv
     cases hv with
     |som _ h2=>exact(ih _ _ h d).1 h2
    intro hv;exact .som hs ((ih _ _ h d).2 hv)
   |@uni _ _ t f x hs hb ht h5 hf h=>
    have e:Kh (.mk 85 [] f.tag [x])<=d+1↔Kh x<=d:=by simp[Kh,Gu]
    rw[e]
    constructor
    ·intro hv
     generalize hg:f.tag=g at hv
     cases hv with
     |uni hs2 hb2 ht2 h52 hf2 h2=>
      rw[ht]at ht2;injection ht2 with ht2;subst ht2
      rw[<-hg,hf]at hf2;injection hf2 with hf2;subst hf2
      exact(ih _ _ h d).1 h2
    intro hv;exact .uni hs hb ht h5 hf ((ih _ _ h d).2 hv)
   |@rcd _ _ t fs hs hb ht h2 hf h hn hp=>
    have e:Kh (.mk 82 [] 0 (fs.map Dg))<=d+1↔∀p∈fs,Kh p.2<=d:=by
     have:Kh (.mk 82 [] 0 (fs.map Dg))=Gu (fs.map Dg)+1:=by simp[Kh]
     rw[this,Nat.succ_le_succ_iff,Sm]
     constructor
     ·intro h p hp;have:=h _ (List.mem_map_of_mem hp);rwa [Qgn]at this
     intro h x hx;obtain⟨p,hp,rfl⟩:=List.mem_map.1 hx;rw[Qgn];exact h p hp
    rw[e]
    constructor
    ·intro hv p hp
     generalize hg:fs.map Dg=ks at hv
     cases hv with
     |@rcd _ _ t2 fs2 hs2 hb2 ht2 h22 hf2 h2 hn2 hp2=>
      rw[ht]at ht2;injection ht2 with ht2;subst ht2
      have hm:Dg p∈fs2.map Dg:=hg ▸ List.mem_map_of_mem hp
      obtain⟨q,hq,eq⟩:=List.mem_map.1 hm
      have e1:q.1.tag=p.1.tag:=by injection eq
      have e2:q.2=p.2:=by injection eq with _ _ _ e4;injection e4
      have e3:q.1=p.1:=by have:=hf2 q hq;rw[e1,hf p hp]at this;injection this with this;exact this.symm
      have:=h2 q hq
      rw[e2,e3]at this
      exact(ih _ _ (h p hp) d).1 this
    intro hv;exact .rcd hs hb ht h2 hf (fun p hp=>(ih _ _ (h p hp) d).2 (hv p hp)) hn hp
def Pt(s:List UInt8):Option (Nat × List UInt8):=match Cf (s.takeWhile Ba)with
 |some n=>some (n,s.dropWhile Ba)
 |none=>none
def Fh(fs:List Fd)(s:List UInt8):Option (Fd × List UInt8):=match Pt s with
 |some (n,r)=>if n<=200 then(match Bg fs n with|some f=>some (f,r)|none=>none)else none
 |none=>none
def Am(c:UInt8):List UInt8->Option (List UInt8)
 |x::r=>if x=c then some r else none
 |[]=>none
def Mn(s:List UInt8):Option (List UInt8 × List UInt8):=match Am 39 s with
 |none=>none
 |some r=>match Am 39 (r.dropWhile B0)with
  |none=>none
  |some q=>if (r.takeWhile B0).length<=12 then some (r.takeWhile B0,q)else none
def E5:List UInt8->List UInt8->Option (List UInt8)
 |[],s=>some s
 |c::p,s=>match Am c s with|none=>none|some r=>E5 p r
def M6(s:List UInt8):Option (Bool × List UInt8):=match E5 Eb s with
 |some r=>some (true,r)
 |none=>match E5 K0 s with|some r=>some (false,r)|none=>none
def Cn(K:List UInt8->Option (Vl × List UInt8)):Nat->List UInt8->Option (List Vl × List UInt8)
 |0,_=>none
 |m+1,s=>match K s with
  |none=>none
  |some (v,r)=>match Am 44 r with
   |some q=>(match Cn K m q with|some (vs,z)=>some (v::vs,z)|none=>none)
   |none=>match Am 93 r with|some q=>some ([v],q)|none=>none
def Sa(K:List UInt8->Option (Vl × List UInt8))(m:Nat)(s:List UInt8):Option (Vl × List UInt8):=match Am 91 s with
 |none=>none
 |some r=>match Am 93 r with
  |some q=>some (.mk 91 [] 0 [],q)
  |none=>match Cn K m r with|some (vs,q)=>if vs.length<=20 then some (.mk 91 [] 0 vs,q)else none|none=>none
def Qau(K:List UInt8->Option (Vl × List UInt8))(s:List UInt8):Option (Vl × List UInt8):=match Am 45 s with
 |some q=>some (.mk 63 [] 0 [],q)
 |none=>match Am 43 s with
  |none=>none
  |some r=>match K r with|some (v,q)=>some (.mk 63 [] 0 [v],q)|none=>none
def Cr(K:Kd->List UInt8->Option (Vl × List UInt8))(fs:List Fd)(s:List UInt8):Option ((Fd × Vl) × List UInt8):=match Fh fs s with
 |none=>none
 |some (f,r)=>match Am 61 r with
  |none=>none
  |some q=>match K f.kind q with|some (v,z)=>some ((f,v),z)|none=>none
def Dr(S:List Ty)(K:Kd->List UInt8->Option (Vl × List UInt8))(fs:List Fd):Nat->Nat->List UInt8->Option (List (Fd × Vl) × List UInt8)
 |0,_,_=>none
 |m+1,last,s=>match Cr K fs s with
  |none=>none
  |some (p,r)=>if p.1.tag<=last\/Az p.2=Re S p.1 then none else match Am 44 r with
   |some q=>(match Dr S K fs m p.1.tag q with|some (ps,z)=>some (p::ps,z)|none=>none)
   |none=>match Am 125 r with|some q=>some ([p],q)|none=>none
def Jl(S:List Ty)(K:Kd->List UInt8->Option (Vl × List UInt8))(t:Ty)(s:List UInt8):Option (Vl × List UInt8):=
 if t.sort=69 then(match Am 35 s with
  |none=>none
  |some r=>match Fh t.fields r with|some (f,q)=>some (.mk 69 [] f.tag [],q)|none=>none)
 else if t.sort=85 then(match Am 60 s with
  |none=>none
  |some r=>match Cr K t.fields r with
   |none=>none
   |some (p,q)=>match Am 62 q with|some z=>some (.mk 85 [] p.1.tag [p.2],z)|none=>none)
 else match Am 123 s with
  |none=>none
  |some r=>match Am 125 r with
   |some q=>some (.mk 82 [] 0 [],q)
   |none=>match Dr S K t.fields 201 0 r with|some (ps,q)=>some (.mk 82 [] 0 (ps.map Dg),q)|none=>none
def Ai(S:List Ty)(m:Nat):Nat->Kd->List UInt8->Option (Vl × List UInt8)
 |0,_,_=>none
 |d+1,k,s=>match k.signs with
  |c::_=>if c=91 then Sa (Ai S m d k.part) m s else Qau (Ai S m d k.part) s
  |[]=>
   if k.base=[110]then(match Pt s with|some (n,r)=>some (.mk 110 (Aw n) 0 [],r)|none=>none)
   else if k.base=[116]then(match Mn s with|some (x,r)=>some (.mk 116 x 0 [],r)|none=>none)
   else if k.base=[102]then(match M6 s with|some (b,r)=>some (.mk 102 (if b then Eb else K0) 0 [],r)|none=>none)
   else match By S k.name with
    |none=>none
    |some t=>Jl S (Ai S m d) t s
theorem B9{c:UInt8}{s r:List UInt8}:Am c s=some r↔s=c::r:=by
 cases s with
 |nil=>simp[Am]
 |cons x t=>
  by_cases h:x=c
  ·subst h;simp[Am]
  simp[Am,h]
theorem Bm(c:UInt8)(r:List UInt8):Am c (c::r)=some r:=if_pos rfl
theorem Df{c x:UInt8}(h:x≠c)(r:List UInt8):Am c (x::r)=none:=if_neg h
theorem Fb{p s r:List UInt8}:E5 p s=some r↔s=p++r:=by
 induction p generalizing s with
 |nil=>simp[E5]
 |cons c p ih=>
  unfold E5
  cases h:Am c s with
  |none=>
   simp only[false_iff,reduceCtorEq]
   intro e;subst e;rw[List.cons_append,Bm]at h;cases h
  |some q=>rw[B9]at h;subst h;simp[ih]
def Pj(r:List UInt8):Prop:=∀c t,r=c::t->Ba c=false
theorem Mh:Pj []:=by intro c t h;cases h
theorem H4{c:UInt8}(r:List UInt8)(h:Ba c=false):Pj (c::r):=by intro x t e;injection e with e;subst e;exact h
theorem Qdy{a r:List UInt8}(ha:a.all Ba=true)(hr:Pj r):(a++r).takeWhile Ba=a/\(a++r).dropWhile Ba=r:=by
 cases r with
 |nil=>
  rw[List.append_nil]
  induction a with
  |nil=>exact⟨rfl,rfl⟩
  |cons c a ih=>
   rw[List.all_cons,Bool.and_eq_true]at ha
   obtain⟨i1,i2⟩:=ih ha.2
   rw[List.takeWhile_cons_of_pos ha.1,List.dropWhile_cons_of_pos ha.1,i1,i2]
   exact⟨rfl,rfl⟩
 |cons c t=>exact Ey ha ⟨c,t,rfl,hr c t rfl⟩
theorem Xh{s r:List UInt8}{n:Nat}(h:Pt s=some (n,r)):n<=999999/\s=Aw n++r/\Pj r:=by
 unfold Pt at h
 cases hd:Cf (s.takeWhile Ba)with
 |none=>rw[hd]at h;cases h
 |some m=>
  rw[hd]at h
  simp only[Option.some.injEq,Prod.mk.injEq]at h
  obtain⟨rfl,rfl⟩:=h
  obtain⟨h1,h2⟩:=Bx.1 hd
  refine⟨h1,by rw[<-h2,List.takeWhile_append_dropWhile],fun c t e=>?_⟩
  have:=List.head?_dropWhile_not Ba s
  rw[e]at this
  simpa using this
theorem Zc{n:Nat}{r:List UInt8}(h:n<=999999)(hr:Pj r):Pt (Aw n++r)=some (n,r):=by
 obtain⟨e1,e2⟩:=Qdy (Nt n) hr
 unfold Pt
 rw[e1,e2,Bx.2 ⟨h,rfl⟩]
theorem Bk{fs:List Fd}{n:Nat}{f:Fd}(h:Bg fs n=some f):f.tag=n/\f∈fs:=by
 unfold Bg at h
 have:=List.find?_some h
 exact⟨by simpa using this,List.mem_of_find?_eq_some h⟩
theorem H7{fs:List Fd}{s r:List UInt8}{f:Fd}(h:Fh fs s=some (f,r)):f.tag<=200/\Bg fs f.tag=some f/\s=Aw f.tag++r/\Pj r:=by
 unfold Fh at h
 cases hn:Pt s with
 |none=>rw[hn]at h;cases h
 |some q=>
  obtain⟨n,z⟩:=q
  rw[hn]at h
  simp only at h
  split at h
  ·rename_i h2
   cases hf:Bg fs n with
   |none=>rw[hf]at h;cases h
   |some g=>
    rw[hf]at h
    simp only[Option.some.injEq,Prod.mk.injEq]at h
    obtain⟨rfl,rfl⟩:=h
    have e:=(Bk hf).1
    obtain⟨_,e2,e3⟩:=Xh hn
    rw[e]
    exact⟨h2,hf,e2,e3⟩
  cases h
theorem Zb{fs:List Fd}{f:Fd}{r:List UInt8}(h:f.tag<=200)(hf:Bg fs f.tag=some f)(hr:Pj r):Fh fs (Aw f.tag++r)=some (f,r):=by
 unfold Fh
 rw[Zc (by omega) hr]
 simp[h,hf]
theorem Qam:B0 39=false:=by decide
theorem Xg{s b r:List UInt8}:Mn s=some (b,r)↔Dh b=true/\s=39::(b++39::r):=by
 unfold Mn
 cases h:Am 39 s with
 |none=>
  simp only[reduceCtorEq,false_iff,not_and]
  rintro _ rfl
  rw[Bm]at h;cases h
 |some q=>
  rw[B9]at h
  subst h
  simp only[List.cons.injEq,true_and]
  cases h:Am 39 (q.dropWhile B0)with
  |none=>
   simp only[reduceCtorEq,false_iff,not_and]
   rintro hb rfl
   have hb2:b.all B0=true:=by unfold Dh at hb;simp only[Bool.and_eq_true]at hb;exact hb.2
   rw[(Ey hb2 ⟨39,r,rfl,Qam⟩).2,Bm]at h
   cases h
  |some z=>
   rw[B9]at h
   have eq:q=q.takeWhile B0++39::z:=by rw[<-h,List.takeWhile_append_dropWhile]
   simp only
   constructor
   ·intro h2
    split at h2
    ·rename_i hl
     simp only[Option.some.injEq,Prod.mk.injEq]at h2
     obtain⟨rfl,rfl⟩:=h2
     exact⟨by unfold Dh;simp only[Bool.and_eq_true];exact⟨by simpa using hl,Jd q⟩,eq⟩
    cases h2
   rintro⟨hb,rfl⟩
   unfold Dh at hb
   simp only[Bool.and_eq_true,decide_eq_true_eq]at hb
   obtain⟨e1,e2⟩:=Ey hb.2 ⟨39,r,rfl,Qam⟩
   rw[e2]at h
   injection h with _ h
   subst h
   rw[e1,if_pos hb.1]
theorem S9{s r:List UInt8}{b:Bool}:M6 s=some (b,r)↔s=(if b then Eb else K0)++r:=by
 unfold M6
 cases h:E5 Eb s with
 |some q=>
  rw[Fb]at h
  subst h
  cases b<;>simp[Eb,K0]
 |none=>
  simp only
  cases h2:E5 K0 s with
  |some q=>
   rw[Fb]at h2
   subst h2
   cases b<;>simp[Eb,K0]
  |none=>
   simp only[reduceCtorEq,false_iff]
   rintro rfl
   cases b
   ·rw[show E5 K0 ((if false=true then Eb else K0)++r)=some r from Fb.2 rfl]at h2;cases h2
   rw[show E5 Eb ((if true=true then Eb else K0)++r)=some r from Fb.2 rfl]at h;cases h
end Go.Proofs.YtkigmebejmmikaaGreatDoor
