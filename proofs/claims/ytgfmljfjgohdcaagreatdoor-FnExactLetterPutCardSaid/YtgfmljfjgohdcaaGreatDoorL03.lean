/- Texts joined. Conditions: as each theorem names them. -/
import Derived.Maps.OwnSet
import Derived.Maps.OwnOps
import Derived.StringKeys
import Derived.Shelf.Strings.SlTrimAscii
import Derived.Shelf.Strings.Prefix
import Derived.Shelf.Strings.Search3
import Derived.Shelf.Strings.Count
import Derived.Shelf.Strings.OnBuilder
import Derived.Test.YtgfmljfjgohdcaaGreatDoorProg
import Derived.Lib.IndexLaws
import Derived.Deep.MidRow
import Derived.Deep.AppendLies
import Derived.Deep.RegionWith
import Derived.Test.YtgfmljfjgohdcaaGreatDoorL02
set_option maxRecDepth 100000
set_option maxHeartbeats 32000000
set_option linter.unusedVariables false
set_option linter.unusedSimpArgs false
namespace Go.Proofs.YtgfmljfjgohdcaaGreatDoor
open Go.RowKit Go.Proofs.Tryz
theorem Cd.ownK{w:World}{base k:Nat}{e:TypeId}{v:Value}{n:Nat}{xs:List Value}(h:w.ownsRow base e k v n xs)(hle:n*k<=maxLen):∃A c,v=.slice A n c/\Cd w A (n*k) xs:=by
 have h1:=h.1;rcases h.2 with⟨rfl,rfl⟩|⟨g,cap,cur,rfl,hb,hh,hnc,hcm,hcs,htk⟩
 ·exact⟨none,0,rfl,by omega,by omega,fun h=>absurd h aF⟩
 refine⟨some ⟨g,0,none⟩,cap,rfl,by omega,hle,fun hn=>⟨g,0,rfl,(h.lt g rfl).2,fun j u hu=>?_⟩⟩;have:=h.cells (g:=g) rfl j u hu;have e1:(⟨g,0,none⟩:Addr).add j=⟨g,0+j,none⟩:=bn;rwa [e1]at this
section
variable {P:Program}
theorem Qbb(w:World){ops:Array Oper}{rest:List Oper}{o:Oper}{a:Act}{Q:Exit->Act->World->Prop}(hgd:o.guard=none)(s x:Operand)(t:TypeId)
  (ho:o.op=.call {callee:=.builtin .append,args:=#[s,x],argTypes:=#[t,t]})
  (base:Nat) (e:TypeId) (z:Value) (k bytes:Nat) (ht:P.underlying t=some (.slice e)) (hinfo:(P.info? e).map (fun i=>(i.zero,i.size,i.bytes))=some (some z,k,bytes))
  (hzs:z.cells.size=k) (hk:0<k) (W:World) (us:List Value) (hul:us.length=k) (hw:w=W.alloc (.cells us.toArray e)) (hu:∀u∈us,u.oneCell'=true) (v:Value) (n:Nat) (xs:List Value) (hs:a.eval s=v) (hx:a.eval x=.slice (W,0) 1 1)
  (hown:W.ownsRow base e k v n xs)
  (h63:n+1<=maxLen) (hbytes:(n+1)*bytes<=140737488355328) (hbase:base<=W.heap.size)
  (h:∀v' w',w'.ownsRow base e k v' (n+1) (xs++us)->Below base W w'->wpList P ops Q rest (a.put o.dst v') w'):wpList P ops Q (o::rest) a w:=by
 subst hw;obtain⟨i0,hi,hz0,hz1,hz2⟩:=info_parts hinfo;refine wpList_append_own _ hgd s x t ho base e i0 z k bytes ht hi hz0 hz1 hz2 hzs hk v n xs hs (hown.alloc _) ⟨W.heap.size,0,none⟩ 1 1 us hx aF ?_ hu h63 hbytes ?_ ?_
 ·exact gj
 ·exact gO
 intro v' w' h1 h2 _;exact h v' w' h1 (((Ar base W).alloc hbase _).grown h2 aL (fun k hk=>(hown.lt k hk).1))
end
theorem Qkl:(prog.info? 177).map (fun i=>(i.zero,i.size,i.bytes))=some (some sf0,4,56):=aJ
theorem Tryz.infoSt:(prog.info? 153).map (fun i=>(i.zero,i.size,i.bytes))=some (some (.agg #[.int .u8 0,a6,.slice none 0 0]),3,48):=aJ
section
open Go.Maps (Keyed)
def N8(v:Value):Option (DataW Value × List MemPlace):=some (.held v,[])
def Db(P:Program)(k:TypeId)(z:Value)(w:World)(b n:Nat)(F:Lit->Value):Prop:=
 ∃D:DataW Value,w.ownsMap P k N8 b n D/\Go.Maps.IsMap D/\∀l,WideAt.IsKeyLit l->D.atKey l (.held z)=.held (F l)
section
variable {P:Program} {k:TypeId} {z:Value} {w w':World} {b n:Nat} {F:Lit->Value}
theorem Db.made(w:World)(P:Program)(k:TypeId)(z:Value):Db P k z (w.alloc (.map #[] 0)) w 0 (fun _=>z):=
 ⟨.map [],World.ownsMap_made w P k N8,Go.Maps.isMap_empty,fun l _=>rfl⟩
theorem Db.lt(h:Db P k z w b n F):b<w.heap.size:=by
 obtain⟨D,h1,_⟩:=h;exact h1.lt
theorem Db.kept{row:Option Nat}(h:Db P k z w b n F)(hg:w.grownBy w' row)(hne:some b≠row):Db P k z w' b n F:=by
 obtain⟨D,h1,h2⟩:=h;exact⟨D,h1.kept hg hne,h2⟩
theorem Db.below(h:Db P k z w b n F)(hb:Below w w w'):Db P k z w' b n F:=
 h.kept (row:=none) ⟨hb.os,hb.tape,hb.output,hb.size,fun k hk _=>hb.block k hk⟩ aH
theorem Db.belowAt{B:Nat}(h:Db P k z w b n F)(hlt:b<B)(hb:Below B w w'):Db P k z w' b n F:=by
 obtain⟨D,⟨es,clock,h1,h2,h3,h4⟩,h5⟩:=h;exact⟨D,⟨es,clock,(hb.block b hlt).trans h1,h2,h3,h4⟩,h5⟩
theorem Db.alloc(h:Db P k z w b n F)(o:Obj):Db P k z (w.alloc o) b n F:=h.below ((Ar _ _).alloc (Am _) o)
theorem Db.drew(h:Db P k z w b n F):Db P k z w.drew b n F:=h
theorem Db.mono(h:Db P k z w b n F){n':Nat}(hn:n<=n'):Db P k z w b n' F:=by
 obtain⟨D,h1,h2⟩:=h;exact⟨D,h1.mono hn,h2⟩
theorem Db.of_eq{G:Lit->Value}(h:Db P k z w b n F)(e:∀l,WideAt.IsKeyLit l->F l=G l):Db P k z w b n G:=by
 obtain⟨D,h1,h2,h3⟩:=h;exact⟨D,h1,h2,fun l hl=>by rw[h3 l hl,e l hl]⟩
theorem Db.lookup{t e:TypeId}(h:Db P k z w b n F)(K:Keyed P k)(ht:P.underlying t=some (.map k e))(hz:(zeroValue e).run P w=.ok z w){key:Value}{kl:Lit}(hkey:keyOf P k key=some kl):
  (Instr.lookup t (.map (some b)) key false).run P w=.ok (F kl) w:=by
 obtain⟨D,h1,h2,h3⟩:=h;obtain⟨v,ps,hrun,hv⟩:=h1.lookup K ht hz (show N8 z=some (.held z,[])from rfl) hkey;rw[h3 kl (K.key hkey)]at hv;simp only[N8,ah,aC,DataW.held.injEq]at hv;rw[hrun,hv.1]
theorem Db.store{t e:TypeId}(h:Db P k z w b n F)(K:Keyed P k)(ht:P.underlying t=some (.map k e))(hn:n<maxLen){key:Value}(val:Value){kl:Lit}(hkey:keyOf P k key=some kl):
  ∃w',(Instr.mapUpdate t (.map (some b)) key val).run P w=.ok () w'/\Db P k z w' b (n+1) (fun l=>if l.sameKey kl=true then val else F l)/\w.grownBy w' (some b):=by
 obtain⟨D,h1,h2,h3⟩:=h;obtain⟨w',hrun,r1,r2⟩:=h1.update K ht hn hkey (show N8 val=some (.held val,[])from rfl);refine⟨w',hrun,⟨_,r1,h2.put _ _,fun l hl=>?_⟩,r2⟩;by_cases e:l=kl
 ·subst e;rw[Go.Maps.atKey_put_same h2 hl];simp[WideAt.sameKey_self hl]
 rw[Go.Maps.atKey_put_other e,h3 l hl];simp[show l.sameKey kl=false from Go.Maps.sameKey_ne e]
end
end
end Go.Proofs.YtgfmljfjgohdcaaGreatDoor
namespace Go.Proofs
open Go.Shelf
def Tryz.lays160_ren:Go.Shelf.Ren:=⟨fun|160=>211|232=>239|231=>205|227=>206|234=>240|233=>207|236=>241|235=>208|228=>236|271=>265|151=>238|197=>237|120=>277|152=>264|260=>263|137=>275|119=>276|224=>258|225=>257|217=>256|266=>271|n=>n,fun|9=>9|4=>4|3=>3|5=>5|117=>243|116=>242|0=>0|124=>246|21=>21|105=>266|46=>257|119=>296|139=>299|138=>298|n=>n,fun|3=>1|4=>2|n=>n⟩
theorem Tryz.lays160:Go.Proofs.Lays.n160 Tryz.prog Tryz.lays160_ren:={
 mixed:=by kernel_rfl
 f119:=Tryz.func276.trans (congrArg some (by kernel_rfl))
 f120:=Tryz.func277.trans (congrArg some (by kernel_rfl))
 f137:=Tryz.func275.trans (congrArg some (by kernel_rfl))
 f151:=Tryz.func238.trans (congrArg some (by kernel_rfl))
 f152:=Tryz.func264.trans (congrArg some (by kernel_rfl))
 f160:=Tryz.func211.trans (congrArg some (by kernel_rfl))
 f197:=Tryz.func237.trans (congrArg some (by kernel_rfl))
 f217:=Tryz.func256.trans (congrArg some (by kernel_rfl))
 f224:=Tryz.func258.trans (congrArg some (by kernel_rfl))
 f225:=Tryz.func257.trans (congrArg some (by kernel_rfl))
 f227:=Tryz.func206.trans (congrArg some (by kernel_rfl))
 f228:=Tryz.func236.trans (congrArg some (by kernel_rfl))
 f231:=Tryz.func205.trans (congrArg some (by kernel_rfl))
 f232:=Tryz.func239.trans (congrArg some (by kernel_rfl))
 f233:=Tryz.func207.trans (congrArg some (by kernel_rfl))
 f234:=Tryz.func240.trans (congrArg some (by kernel_rfl))
 f235:=Tryz.func208.trans (congrArg some (by kernel_rfl))
 f236:=Tryz.func241.trans (congrArg some (by kernel_rfl))
 f260:=Tryz.func263.trans (congrArg some (by kernel_rfl))
 f266:=Tryz.func271.trans (congrArg some (by kernel_rfl))
 f271:=Tryz.func265.trans (congrArg some (by kernel_rfl))
 t0:=Tryz.underlying0
 a0:=Tryz.isAgg0
 z0:=Tryz.sizeOf0
 v0:=Tryz.zeroValue0
 t3:=Tryz.underlying3
 a3:=Tryz.isAgg3
 z3:=Tryz.sizeOf3
 v3:=Tryz.zeroValue3
 t4:=Tryz.underlying4
 a4:=Tryz.isAgg4
 z4:=Tryz.sizeOf4
 v4:=Tryz.zeroValue4
 t5:=Tryz.underlying5
 a5:=Tryz.isAgg5
 z5:=Tryz.sizeOf5
 v5:=Tryz.zeroValue5
 t9:=Tryz.underlying9
 a9:=Tryz.isAgg9
 z9:=Tryz.sizeOf9
 v9:=Tryz.zeroValue9
 t21:=Tryz.underlying21
 a21:=Tryz.isAgg21
 z21:=Tryz.sizeOf21
 v21:=Tryz.zeroValue21
 t46:=Tryz.underlying257
 a46:=Tryz.isAgg257
 z46:=Tryz.sizeOf257
 v46:=Tryz.zeroValue257
 t105:=Tryz.underlying266
 a105:=Tryz.isAgg266
 z105:=Tryz.sizeOf266
 v105:=Tryz.zeroValue266
 t116:=Tryz.underlying242
 a116:=Tryz.isAgg242
 z116:=Tryz.sizeOf242
 t117:=Tryz.underlying243
 a117:=Tryz.isAgg243
 z117:=Tryz.sizeOf243
 v117:=Tryz.zeroValue243
 t119:=Tryz.underlying296
 a119:=Tryz.isAgg296
 z119:=Tryz.sizeOf296
 t124:=Tryz.underlying246
 a124:=Tryz.isAgg246
 z124:=Tryz.sizeOf246
 v124:=Tryz.zeroValue246
 t138:=Tryz.underlying298
 a138:=Tryz.isAgg298
 z138:=Tryz.sizeOf298
 v138:=Tryz.zeroValue298
 t139:=Tryz.underlying299
 a139:=Tryz.isAgg299
 z139:=Tryz.sizeOf299
 v139:=Tryz.zeroValue299
 g3:=by kernel_rfl
 g4:=by kernel_rfl}
def Tryz.lays161_ren:Go.Shelf.Ren:=⟨fun|161=>150|231=>205|227=>206|233=>207|235=>208|228=>236|197=>237|151=>238|260=>263|152=>264|137=>275|119=>276|224=>258|225=>257|217=>256|266=>271|n=>n,fun|9=>9|4=>4|3=>3|5=>5|117=>243|116=>242|0=>0|124=>246|105=>266|21=>21|119=>296|46=>257|139=>299|138=>298|n=>n,fun|3=>1|4=>2|n=>n⟩
theorem Tryz.lays161:Go.Proofs.Lays.n161 Tryz.prog Tryz.lays161_ren:={
 mixed:=by kernel_rfl
 f119:=Tryz.func276.trans (congrArg some (by kernel_rfl))
 f137:=Tryz.func275.trans (congrArg some (by kernel_rfl))
 f151:=Tryz.func238.trans (congrArg some (by kernel_rfl))
 f152:=Tryz.func264.trans (congrArg some (by kernel_rfl))
 f161:=Tryz.func150.trans (congrArg some (by kernel_rfl))
 f197:=Tryz.func237.trans (congrArg some (by kernel_rfl))
 f217:=Tryz.func256.trans (congrArg some (by kernel_rfl))
 f224:=Tryz.func258.trans (congrArg some (by kernel_rfl))
 f225:=Tryz.func257.trans (congrArg some (by kernel_rfl))
 f227:=Tryz.func206.trans (congrArg some (by kernel_rfl))
 f228:=Tryz.func236.trans (congrArg some (by kernel_rfl))
 f231:=Tryz.func205.trans (congrArg some (by kernel_rfl))
 f233:=Tryz.func207.trans (congrArg some (by kernel_rfl))
 f235:=Tryz.func208.trans (congrArg some (by kernel_rfl))
 f260:=Tryz.func263.trans (congrArg some (by kernel_rfl))
 f266:=Tryz.func271.trans (congrArg some (by kernel_rfl))
 t0:=Tryz.underlying0
 a0:=Tryz.isAgg0
 z0:=Tryz.sizeOf0
 v0:=Tryz.zeroValue0
 t3:=Tryz.underlying3
 a3:=Tryz.isAgg3
 z3:=Tryz.sizeOf3
 v3:=Tryz.zeroValue3
 t4:=Tryz.underlying4
 a4:=Tryz.isAgg4
 z4:=Tryz.sizeOf4
 v4:=Tryz.zeroValue4
 t5:=Tryz.underlying5
 a5:=Tryz.isAgg5
 z5:=Tryz.sizeOf5
 v5:=Tryz.zeroValue5
 t9:=Tryz.underlying9
 a9:=Tryz.isAgg9
 z9:=Tryz.sizeOf9
 v9:=Tryz.zeroValue9
 t21:=Tryz.underlying21
 a21:=Tryz.isAgg21
 z21:=Tryz.sizeOf21
 v21:=Tryz.zeroValue21
 t46:=Tryz.underlying257
 a46:=Tryz.isAgg257
 z46:=Tryz.sizeOf257
 v46:=Tryz.zeroValue257
 t105:=Tryz.underlying266
 a105:=Tryz.isAgg266
 z105:=Tryz.sizeOf266
 v105:=Tryz.zeroValue266
 t116:=Tryz.underlying242
 a116:=Tryz.isAgg242
 z116:=Tryz.sizeOf242
 t117:=Tryz.underlying243
 a117:=Tryz.isAgg243
 z117:=Tryz.sizeOf243
 v117:=Tryz.zeroValue243
 t119:=Tryz.underlying296
 a119:=Tryz.isAgg296
 z119:=Tryz.sizeOf296
 t124:=Tryz.underlying246
 a124:=Tryz.isAgg246
 z124:=Tryz.sizeOf246
 v124:=Tryz.zeroValue246
 t138:=Tryz.underlying298
 a138:=Tryz.isAgg298
 z138:=Tryz.sizeOf298
 v138:=Tryz.zeroValue298
 t139:=Tryz.underlying299
 a139:=Tryz.isAgg299
 z139:=Tryz.sizeOf299
 v139:=Tryz.zeroValue299
 g3:=by kernel_rfl
 g4:=by kernel_rfl}
def Tryz.lays99_ren:Go.Shelf.Ren:=⟨fun|99=>151|206=>209|n=>n,fun|9=>9|4=>4|3=>3|n=>n,fun|n=>n⟩
theorem Tryz.lays99:Go.Proofs.Lays.n99 Tryz.prog Tryz.lays99_ren:={
 mixed:=by kernel_rfl
 f99:=Tryz.func151.trans (congrArg some (by kernel_rfl))
 f206:=Tryz.func209.trans (congrArg some (by kernel_rfl))
 t3:=Tryz.underlying3
 a3:=Tryz.isAgg3
 z3:=Tryz.sizeOf3
 v3:=Tryz.zeroValue3
 t4:=Tryz.underlying4
 a4:=Tryz.isAgg4
 z4:=Tryz.sizeOf4
 v4:=Tryz.zeroValue4
 t9:=Tryz.underlying9
 a9:=Tryz.isAgg9
 z9:=Tryz.sizeOf9
 v9:=Tryz.zeroValue9}
def Tryz.lays100_ren:Go.Shelf.Ren:=⟨fun|100=>152|207=>210|n=>n,fun|9=>9|4=>4|3=>3|n=>n,fun|n=>n⟩
theorem Tryz.lays100:Go.Proofs.Lays.n100 Tryz.prog Tryz.lays100_ren:={
 mixed:=by kernel_rfl
 f100:=Tryz.func152.trans (congrArg some (by kernel_rfl))
 f207:=Tryz.func210.trans (congrArg some (by kernel_rfl))
 t3:=Tryz.underlying3
 a3:=Tryz.isAgg3
 z3:=Tryz.sizeOf3
 v3:=Tryz.zeroValue3
 t4:=Tryz.underlying4
 a4:=Tryz.isAgg4
 z4:=Tryz.sizeOf4
 v4:=Tryz.zeroValue4
 t9:=Tryz.underlying9
 a9:=Tryz.isAgg9
 z9:=Tryz.sizeOf9
 v9:=Tryz.zeroValue9}
def Tryz.lays143_ren:Go.Shelf.Ren:=⟨fun|143=>230|219=>229|217=>256|225=>257|224=>258|267=>259|266=>271|314=>272|n=>n,fun|9=>9|3=>3|4=>4|5=>5|46=>257|146=>294|51=>280|n=>n,fun|1=>0|n=>n⟩
theorem Tryz.lays143:Go.Proofs.Lays.n143 Tryz.prog Tryz.lays143_ren:={
 mixed:=by kernel_rfl
 f143:=Tryz.func230.trans (congrArg some (by kernel_rfl))
 f217:=Tryz.func256.trans (congrArg some (by kernel_rfl))
 f219:=Tryz.func229.trans (congrArg some (by kernel_rfl))
 f224:=Tryz.func258.trans (congrArg some (by kernel_rfl))
 f225:=Tryz.func257.trans (congrArg some (by kernel_rfl))
 f266:=Tryz.func271.trans (congrArg some (by kernel_rfl))
 f267:=Tryz.func259.trans (congrArg some (by kernel_rfl))
 f314:=Tryz.func272.trans (congrArg some (by kernel_rfl))
 t3:=Tryz.underlying3
 a3:=Tryz.isAgg3
 z3:=Tryz.sizeOf3
 v3:=Tryz.zeroValue3
 t4:=Tryz.underlying4
 a4:=Tryz.isAgg4
 z4:=Tryz.sizeOf4
 v4:=Tryz.zeroValue4
 t5:=Tryz.underlying5
 a5:=Tryz.isAgg5
 z5:=Tryz.sizeOf5
 v5:=Tryz.zeroValue5
 t9:=Tryz.underlying9
 a9:=Tryz.isAgg9
 z9:=Tryz.sizeOf9
 v9:=Tryz.zeroValue9
 t46:=Tryz.underlying257
 a46:=Tryz.isAgg257
 z46:=Tryz.sizeOf257
 v46:=Tryz.zeroValue257
 t51:=Tryz.underlying280
 a51:=Tryz.isAgg280
 z51:=Tryz.sizeOf280
 v51:=Tryz.zeroValue280
 t146:=Tryz.underlying294
 a146:=Tryz.isAgg294
 z146:=Tryz.sizeOf294
 v146:=Tryz.zeroValue294
 g1:=by kernel_rfl}
def Tryz.lays144_ren:Go.Shelf.Ren:=⟨fun|144=>190|143=>230|219=>229|217=>256|225=>257|224=>258|267=>259|266=>271|314=>272|n=>n,fun|9=>9|4=>4|3=>3|5=>5|46=>257|146=>294|51=>280|n=>n,fun|1=>0|n=>n⟩
theorem Tryz.lays144:Go.Proofs.Lays.n144 Tryz.prog Tryz.lays144_ren:={
 mixed:=by kernel_rfl
 f143:=Tryz.func230.trans (congrArg some (by kernel_rfl))
 f144:=Tryz.func190.trans (congrArg some (by kernel_rfl))
 f217:=Tryz.func256.trans (congrArg some (by kernel_rfl))
 f219:=Tryz.func229.trans (congrArg some (by kernel_rfl))
 f224:=Tryz.func258.trans (congrArg some (by kernel_rfl))
 f225:=Tryz.func257.trans (congrArg some (by kernel_rfl))
 f266:=Tryz.func271.trans (congrArg some (by kernel_rfl))
 f267:=Tryz.func259.trans (congrArg some (by kernel_rfl))
 f314:=Tryz.func272.trans (congrArg some (by kernel_rfl))
 t3:=Tryz.underlying3
 a3:=Tryz.isAgg3
 z3:=Tryz.sizeOf3
 v3:=Tryz.zeroValue3
 t4:=Tryz.underlying4
 a4:=Tryz.isAgg4
 z4:=Tryz.sizeOf4
 v4:=Tryz.zeroValue4
 t5:=Tryz.underlying5
 a5:=Tryz.isAgg5
 z5:=Tryz.sizeOf5
 v5:=Tryz.zeroValue5
 t9:=Tryz.underlying9
 a9:=Tryz.isAgg9
 z9:=Tryz.sizeOf9
 v9:=Tryz.zeroValue9
 t46:=Tryz.underlying257
 a46:=Tryz.isAgg257
 z46:=Tryz.sizeOf257
 v46:=Tryz.zeroValue257
 t51:=Tryz.underlying280
 a51:=Tryz.isAgg280
 z51:=Tryz.sizeOf280
 v51:=Tryz.zeroValue280
 t146:=Tryz.underlying294
 a146:=Tryz.isAgg294
 z146:=Tryz.sizeOf294
 v146:=Tryz.zeroValue294
 g1:=by kernel_rfl}
def Tryz.lays138_ren:Go.Shelf.Ren:=⟨fun|138=>261|195=>273|218=>274|143=>230|219=>229|217=>256|225=>257|224=>258|267=>259|266=>271|314=>272|n=>n,fun|9=>9|3=>3|4=>4|5=>5|0=>0|46=>257|146=>294|51=>280|n=>n,fun|1=>0|n=>n⟩
theorem Tryz.lays138:Go.Proofs.Lays.n138 Tryz.prog Tryz.lays138_ren:={
 mixed:=by kernel_rfl
 f138:=Tryz.func261.trans (congrArg some (by kernel_rfl))
 f143:=Tryz.func230.trans (congrArg some (by kernel_rfl))
 f195:=Tryz.func273.trans (congrArg some (by kernel_rfl))
 f217:=Tryz.func256.trans (congrArg some (by kernel_rfl))
 f218:=Tryz.func274.trans (congrArg some (by kernel_rfl))
 f219:=Tryz.func229.trans (congrArg some (by kernel_rfl))
 f224:=Tryz.func258.trans (congrArg some (by kernel_rfl))
 f225:=Tryz.func257.trans (congrArg some (by kernel_rfl))
 f266:=Tryz.func271.trans (congrArg some (by kernel_rfl))
 f267:=Tryz.func259.trans (congrArg some (by kernel_rfl))
 f314:=Tryz.func272.trans (congrArg some (by kernel_rfl))
 t0:=Tryz.underlying0
 a0:=Tryz.isAgg0
 z0:=Tryz.sizeOf0
 v0:=Tryz.zeroValue0
 t3:=Tryz.underlying3
 a3:=Tryz.isAgg3
 z3:=Tryz.sizeOf3
 v3:=Tryz.zeroValue3
 t4:=Tryz.underlying4
 a4:=Tryz.isAgg4
 z4:=Tryz.sizeOf4
 v4:=Tryz.zeroValue4
 t5:=Tryz.underlying5
 a5:=Tryz.isAgg5
 z5:=Tryz.sizeOf5
 v5:=Tryz.zeroValue5
 t9:=Tryz.underlying9
 a9:=Tryz.isAgg9
 z9:=Tryz.sizeOf9
 v9:=Tryz.zeroValue9
 t46:=Tryz.underlying257
 a46:=Tryz.isAgg257
 z46:=Tryz.sizeOf257
 v46:=Tryz.zeroValue257
 t51:=Tryz.underlying280
 a51:=Tryz.isAgg280
 z51:=Tryz.sizeOf280
 v51:=Tryz.zeroValue280
 t146:=Tryz.underlying294
 a146:=Tryz.isAgg294
 z146:=Tryz.sizeOf294
 v146:=Tryz.zeroValue294
 g1:=by kernel_rfl}
def Tryz.lays219_ren:Go.Shelf.Ren:=⟨fun|219=>229|217=>256|225=>257|224=>258|267=>259|266=>271|314=>272|n=>n,fun|9=>9|3=>3|4=>4|5=>5|46=>257|146=>294|51=>280|n=>n,fun|1=>0|n=>n⟩
theorem Tryz.lays219:Go.Proofs.Lays.n219 Tryz.prog Tryz.lays219_ren:={
 mixed:=by kernel_rfl
 f217:=Tryz.func256.trans (congrArg some (by kernel_rfl))
 f219:=Tryz.func229.trans (congrArg some (by kernel_rfl))
 f224:=Tryz.func258.trans (congrArg some (by kernel_rfl))
 f225:=Tryz.func257.trans (congrArg some (by kernel_rfl))
 f266:=Tryz.func271.trans (congrArg some (by kernel_rfl))
 f267:=Tryz.func259.trans (congrArg some (by kernel_rfl))
 f314:=Tryz.func272.trans (congrArg some (by kernel_rfl))
 t3:=Tryz.underlying3
 a3:=Tryz.isAgg3
 z3:=Tryz.sizeOf3
 v3:=Tryz.zeroValue3
 t4:=Tryz.underlying4
 a4:=Tryz.isAgg4
 z4:=Tryz.sizeOf4
 v4:=Tryz.zeroValue4
 t5:=Tryz.underlying5
 a5:=Tryz.isAgg5
 z5:=Tryz.sizeOf5
 v5:=Tryz.zeroValue5
 t9:=Tryz.underlying9
 a9:=Tryz.isAgg9
 z9:=Tryz.sizeOf9
 v9:=Tryz.zeroValue9
 t46:=Tryz.underlying257
 a46:=Tryz.isAgg257
 z46:=Tryz.sizeOf257
 v46:=Tryz.zeroValue257
 t51:=Tryz.underlying280
 a51:=Tryz.isAgg280
 z51:=Tryz.sizeOf280
 v51:=Tryz.zeroValue280
 t146:=Tryz.underlying294
 a146:=Tryz.isAgg294
 z146:=Tryz.sizeOf294
 v146:=Tryz.zeroValue294
 g1:=by kernel_rfl}
def Tryz.lays156_ren:Go.Shelf.Ren:=⟨fun|156=>104|165=>161|166=>162|169=>163|240=>216|241=>217|276=>242|277=>243|n=>n,fun|31=>64|9=>9|3=>3|4=>4|0=>0|20=>20|72=>209|76=>213|70=>207|37=>22|75=>212|127=>250|164=>269|5=>5|80=>78|n=>n,fun|n=>n⟩
theorem Tryz.lays156:Go.Proofs.Lays.n156 Tryz.prog Tryz.lays156_ren:={
 mixed:=by kernel_rfl
 f156:=Tryz.func104.trans (congrArg some (by kernel_rfl))
 f165:=Tryz.func161.trans (congrArg some (by kernel_rfl))
 f166:=Tryz.func162.trans (congrArg some (by kernel_rfl))
 f169:=Tryz.func163.trans (congrArg some (by kernel_rfl))
 f240:=Tryz.func216.trans (congrArg some (by kernel_rfl))
 f241:=Tryz.func217.trans (congrArg some (by kernel_rfl))
 f276:=Tryz.func242.trans (congrArg some (by kernel_rfl))
 f277:=Tryz.func243.trans (congrArg some (by kernel_rfl))
 t0:=Tryz.underlying0
 a0:=Tryz.isAgg0
 z0:=Tryz.sizeOf0
 v0:=Tryz.zeroValue0
 t3:=Tryz.underlying3
 a3:=Tryz.isAgg3
 z3:=Tryz.sizeOf3
 v3:=Tryz.zeroValue3
 t4:=Tryz.underlying4
 a4:=Tryz.isAgg4
 z4:=Tryz.sizeOf4
 v4:=Tryz.zeroValue4
 t9:=Tryz.underlying9
 a9:=Tryz.isAgg9
 z9:=Tryz.sizeOf9
 v9:=Tryz.zeroValue9
 t20:=Tryz.underlying20
 a20:=Tryz.isAgg20
 z20:=Tryz.sizeOf20
 v20:=Tryz.zeroValue20
 t31:=Tryz.underlying64
 a31:=Tryz.isAgg64
 z31:=Tryz.sizeOf64
 v31:=Tryz.zeroValue64
 t37:=Tryz.underlying22
 a37:=Tryz.isAgg22
 z37:=Tryz.sizeOf22
 v37:=Tryz.zeroValue22
 t70:=Tryz.underlying207
 a70:=Tryz.isAgg207
 z70:=Tryz.sizeOf207
 v70:=Tryz.zeroValue207
 t72:=Tryz.underlying209
 a72:=Tryz.isAgg209
 z72:=Tryz.sizeOf209
 v72:=Tryz.zeroValue209
 t75:=Tryz.underlying212
 a75:=Tryz.isAgg212
 z75:=Tryz.sizeOf212
 v75:=Tryz.zeroValue212
 t76:=Tryz.underlying213
 a76:=Tryz.isAgg213
 z76:=Tryz.sizeOf213
 v76:=Tryz.zeroValue213
 t127:=Tryz.underlying250
 a127:=Tryz.isAgg250
 z127:=Tryz.sizeOf250
 v127:=Tryz.zeroValue250
 t164:=Tryz.underlying269
 a164:=Tryz.isAgg269
 z164:=Tryz.sizeOf269
 v164:=Tryz.zeroValue269}
end Go.Proofs
namespace Go.Proofs.YtgfmljfjgohdcaaGreatDoor
open Go.RowKit Go.Proofs.Tryz
section
attribute [local go_sem] Qls Qkr Qj4 Qig ByteArray.mk_append_mk
theorem Nf(s cs:List UInt8)(w:World)(hcs:cs.length<4294967281)(ha:∀b∈cs,b.toNat<128):
  Calls prog 150 #[s,cs] w fun e w'=>e=.returned (.string ⟨(s.dropWhile (cs.contains ·)).toArray⟩)/\Below w w w':=
 Any.strings_TrimLeft_laid Tryz.lays161 aJ ⟨s.toArray⟩ ⟨cs.toArray⟩ w hcs (fun j b h=>ha b (List.mem_of_getElem? h))
theorem Kz{p:UInt8->Bool}:∀{l:List UInt8},l.dropWhile p=[]↔l.all p=true
 |[]=>aH
 |x::l=>by
  have ih:=Kz (p:=p) (l:=l);by_cases h:p x=true
  ·simp only[List.dropWhile_cons,h,if_true,List.all_cons,Bool.true_and];exact ih
  simp[h]
theorem Qfu{l cs:List UInt8}:Lib.trimS l cs=[]↔l.all (cs.contains ·)=true:=by
 unfold Lib.trimS Lib.trimLeftS Lib.trimRightS;rw[Kz];have hsp:l.reverse.takeWhile (cs.contains ·)++l.reverse.dropWhile (cs.contains ·)=l.reverse:=List.takeWhile_append_dropWhile;have htk:=Jk (p:=fun x=>cs.contains x) l.reverse;constructor
 ·intro h;rw[List.all_eq_true]at h htk ⊢;intro x hx;have hx':x∈l.reverse:=List.mem_reverse.2 hx;rw[<-hsp]at hx';rcases ad.1 hx' with hx'|hx'
  ·exact htk x hx'
  exact h x (List.mem_reverse.2 hx')
 intro h;rw[List.all_eq_true]at h ⊢;intro x hx;have hx':=List.mem_reverse.1 hx;exact h x (List.mem_reverse.1 (by rw[<-hsp];exact List.mem_append_right _ hx'))
theorem Qbj(s cs:List UInt8)(w:World)(hs:s.length<=9223372036854775807)(hcs:cs.length<4294967281)(ha:∀b∈cs,b.toNat<128):
  Calls prog 211 #[s,cs] w fun e w'=>(∃r:List UInt8,e=.returned r/\(r=[]↔s.all (cs.contains ·)=true))/\Below w w w':=
 (Any.strings_Trim_laid Tryz.lays160 aJ ⟨s.toArray⟩ ⟨cs.toArray⟩ w hs hcs (fun j b h=>ha b (List.mem_of_getElem? h))).mono fun e w' ⟨h1,h2⟩=>⟨⟨_,h1,Qfu⟩,h2⟩
theorem Qai(s p:List UInt8):Lib.hasPrefix s p=p.isPrefixOf s:=by
 unfold Lib.hasPrefix;first|rfl|simp
theorem Pu(s p:List UInt8)(w:World):
  Calls prog 151 #[s,p] w fun e w'=>e=.returned (.bool (p.isPrefixOf s))/\w=w':=
 (Any.strings_HasPrefix Tryz.lays99 ⟨s.toArray⟩ ⟨p.toArray⟩ w).mono fun e w' ⟨h1,h2⟩=>⟨by rw[h1,Qai],h2.symm⟩
theorem P3(s p:List UInt8)(w:World)(hs:s.length<=9223372036854775807):
  Calls prog 152 #[s,p] w fun e w'=>e=.returned (.bool (Lib.hasSuffix s p))/\w=w':=
 (Any.strings_HasSuffix Tryz.lays100 ⟨s.toArray⟩ ⟨p.toArray⟩ w hs).mono fun e w' ⟨h1,h2⟩=>⟨h1,h2.symm⟩
theorem Jr(s:List UInt8)(c:UInt8):(c∉s/\Lib.indexByte s c = -1)\/∃p t,s=p++c::t/\c∉p/\Lib.indexByte s c=(p.length:Int):=by
 induction s with
 |nil=>exact .inl ⟨by simp,rfl⟩
 |cons x s ih=>
  by_cases hx:x=c
  ·exact .inr ⟨[],s,by simp[hx],by simp,by simp[Lib.indexByte,hx]⟩
  have hb:(x == c)=false:=by simpa using hx
  rcases ih with⟨hn,e⟩|⟨p,t,es,hp,e⟩
  ·exact .inl ⟨by simp;exact⟨fun h=>hx h.symm,hn⟩,by simp[Lib.indexByte,hb,e]⟩
  refine .inr ⟨x::p,t,by simp[es],by simp;exact⟨fun h=>hx h.symm,hp⟩,?_⟩;have:¬(p.length:Int) = -1:=aF;simp[Lib.indexByte,hb,e,this]
theorem Qem(s:List UInt8)(c:UInt8)(w:World):
  Calls prog 230 #[s,.string ⟨#[c]⟩] w fun e w'=>e=.returned (.int .i64 (Lib.indexByte s c))/\w=w':=
 (Any.strings_Index_one Tryz.lays143 ⟨s.toArray⟩ c w).mono fun e w' ⟨h1,h2⟩=>⟨h1,h2.symm⟩
theorem Tz(s:List UInt8)(c:UInt8)(w:World):
  Calls prog 229 #[s,.string ⟨#[c]⟩] w fun e w'=>e=.returned (.int .i64 (Lib.indexByte s c))/\w=w':=
 (Any.stringslite_Index_one Tryz.lays219 ⟨s.toArray⟩ c w).mono fun e w' ⟨h1,h2⟩=>⟨h1,h2.symm⟩
theorem Qfk(s:List UInt8)(c:UInt8)(w:World):
  Calls prog 261 #[s,.string ⟨#[c]⟩] w fun e w'=>e=.returned (.int .i64 ((s.count c:Nat):Int))/\w=w':=
 (Any.strings_Count_one Tryz.lays138 ⟨s.toArray⟩ c w).mono fun e w' ⟨h1,h2⟩=>⟨h1,h2.symm⟩
theorem Nb(s:List UInt8)(c:UInt8)(w:World):
  Calls prog 190 #[s,.string ⟨#[c]⟩] w fun e w'=>e=.returned (.bool (decide (c∈s)))/\w=w':=
 (Any.strings_Contains_one Tryz.lays144 ⟨s.toArray⟩ c w).mono fun e w' ⟨h1,h2⟩=>⟨by
  rw[h1];refine Ec (Cn ?_);show decide (0<=Lib.indexByte s c)=_;rw[decide_eq_decide];rcases Jr s c with⟨hn,e⟩|⟨p,t,es,hp,e⟩
  ·rw[e];exact⟨fun h=>by omega,fun h=>absurd h hn⟩
  rw[e];exact⟨fun _=>by rw[es];simp,fun _=>by omega⟩,h2.symm⟩
def Qb4(r:List UInt8 × List UInt8 × Bool):Value:=.tuple #[r.1,r.2.1,.bool r.2.2]
theorem Qid(s:List UInt8)(c:UInt8)(w:World)(hs:s.length<=4294967280):
  Calls prog 189 #[s,.string ⟨#[c]⟩] w fun e w'=>e=.returned (Qb4 (Cy c s))/\∃k,w'=w.drewN k:=by
 rcases Jr s c with⟨hn,e⟩|⟨p,t,es,hp,e⟩
 ·have Hc:=Aa (Pf hn);have Hi:=Aa (fun W=>Tz s c W);rw[e]at Hi;clear hn e;go_enter func189,ntmps189;go_wp2_with fail;refine(Hi.o _).mono ?_;rintro e w' ⟨rfl,rfl⟩;go_wp2_with fail;go_ret3
  exact⟨by rw[Hc.o];rfl,0,rfl⟩
 have Hc:=Aa (show Cy c s=(p,t,true)by rw[es];exact Eb hp);have Hi:=Aa (fun W=>Tz s c W);rw[e]at Hi;have hl:s.length=p.length+1+t.length:=by rw[es];simp;omega
 have h1:s.take p.length=p:=by rw[es];simp
 have h2:s.drop (p.length+1)=t:=by
  rw[es,show p++c::t=(p++[c])++t by simp];exact List.drop_left' aH
 have k1:IntKind.i64.wrap ((p.length:Int)+1)=(p.length:Int)+1:=IntWalk.i64_in _ aF;have k2:((p.length:Int)+1).toNat=p.length+1:=aF;have k3:(0:Int)<=(p.length:Int)+1:=aF;have k4:(p.length:Int)+1<=(s.length:Int):=aF;have k5:(p.length:Int)<=(s.length:Int):=aF;have k6:(0:Int)<=(p.length:Int):=aF;have H1:=Aa h1;have H2:=Aa h2;clear e es hl h1 h2 hp;go_enter func189,ntmps189;go_wp2_with fail;refine(Hi.o _).mono ?_;rintro e w' ⟨rfl,rfl⟩;go_wp2_with fail;go_quiet (fail)
 go_wp2
 go_ret3
 exact⟨by rw[Hc.o];exact Qln (Qg4 H1.o) (Qg4 H2.o) rfl,_,rfl⟩
theorem Q4(s:List UInt8)(c:UInt8)(w:World)(hs:s.length<=4294967280):
  Calls prog 134 #[s,.string ⟨#[c]⟩] w fun e w'=>e=.returned (Qb4 (Cy c s))/\∃k,w'=w.drewN k:=by
 go_enter func134,ntmps134;go_wp2_with fail;refine(Qid s c _ hs).mono ?_;rintro e w' ⟨rfl,k,rfl⟩;unfold Qb4;go_wp2_with fail;go_ret3
 exact⟨rfl,k,rfl⟩
theorem Qv(c:UInt8):∀s:List UInt8,(Ai c s).length=s.count c+1
 |[]=>rfl
 |x::s=>by
  have ih:=Qv c s;simp only[Ai];by_cases h:x=c
  ·rw[if_pos h,h];simp[ih]
  rw[if_neg h];have e:List.count c (x::s)=List.count c s:=List.count_cons_of_ne h;rw[e];cases hs:Ai c s with
  |nil=>rw[hs]at ih;simp at ih
  |cons p ps=>rw[hs]at ih;simp at ih ⊢;exact ih
theorem Qgw(A B:List Value)(k:Nat)(x y:Value)(h:A.length=k):(A++x::B).set k y=A++y::B:=by
 subst h;rw[List.set_append,if_neg aF];simp
theorem Qbi{w:World}{base k n g cap:Nat}{ps:List (List UInt8)}{ys:List Value}(h:w.ownsRow base 9 1 (.slice (g,0) n cap) n (Bz ps++ys))(hk:ps.length=k)(hlt:k<n)(s:List UInt8):
  ∃zs,(w.setCell ⟨g,k,none⟩ s).ownsRow base 9 1 (.slice (g,0) n cap) n (Bz (ps++[s])++zs)/\w.grownBy (w.setCell ⟨g,k,none⟩ s) (some g)/\w.frozen? ⟨g,k,none⟩=false/\∃u,w.cell? ⟨g,k,none⟩=some u:=by
 have hl:(Bz ps).length=k:=by simp[Bz,hk]
 have h1:=h.1;rw[af,hl]at h1;obtain⟨y,zs,rfl⟩:∃y zs,ys=y::zs:=by
  cases ys with
  |nil=>simp at h1;omega
  |cons y zs=>exact⟨y,zs,rfl⟩
 have hst:=h.stored k s;rw[Qgw _ _ _ _ _ hl]at hst;have hc:=h.cellAt k aF;rw[List.getElem?_append_right aF,hl]at hc;simp at hc;exact⟨zs,by rw[Nw,List.append_assoc];exact hst.1,hst.2,h.frozenAt k,y,hc⟩
theorem Qil{w:World}{base k n g cap:Nat}{ps:List (List UInt8)}{ys:List Value}(h:w.ownsRow base 9 1 (.slice (g,0) n cap) n (Bz ps++ys))(hk:ps.length=k)(hle:k<=n):
  w.ownsRow base 9 1 (.slice (g,0) k cap) k (Bz ps):=by
 rcases h.2 with⟨e,_⟩|⟨g',cap',cur,e,hb,hh,hnc,hcm,hcs,htk⟩
 ·cases e
 injection e with e1 e2 e3;injection e1 with e1;injection e1 with e1;subst e1;subst e3;refine⟨by simp[Bz,hk],.inr ⟨g,cap,cur,rfl,hb,hh,by omega,hcm,hcs,?_⟩⟩;have hl:(Bz ps).length=k:=by simp[Bz,hk]
 have:(cur.toList.take (n*1)).take (k*1)=(Bz ps++ys).take (k*1):=by rw[htk]
 rw[List.take_take,Nat.min_eq_left aF]at this;rw[this,List.take_append_of_le_length aF,aq aF]
theorem Zt(s:List UInt8)(c:UInt8)(w:World)(hs:s.length<=4000000):
  Calls prog 231 #[s,.string ⟨#[c]⟩,.int .i64 0,.int .i64 (-1)] w fun e w'=>
   ∃v,e=.returned v/\w'.ownsRow w 9 1 v (Ai c s).length (Bz (Ai c s))/\Below w w w':=by
 obtain⟨i0,hi,hz0,hz1,hz2⟩:=info_parts Ta;have hcnt:s.count c<=s.length:=List.count_le_length;have Hn:=Aa (Qv c s);have H0:=@Aa (Ai c s=[]++Ai c s) rfl;go_enter func231,ntmps231;go_wp2_with fail;refine(Qfk s c w).mono ?_;rintro e w' ⟨rfl,rfl⟩;obtain⟨n,hn⟩:∃n,n=s.count c:=⟨_,rfl⟩
 have HN:=Aa hn;rw[<-hn]at hcnt ⊢;clear hn;have hmin:min ((n:Int)+1) ((s.length:Int)+1)=(n:Int)+1:=aF;go_wp2_with (at_make;refine wpList_make_full _ rfl _ _ 64 rfl w 9 i0 a6 1 underlying64 hi hz0 hz1 .i64 .i64 _ _ (n+1) rfl rfl aF aF (by rw[hz2];omega) aY (Am _) ?_;intro w0 hown0 hgrow0)
 go_loopw [0,10] (fun x i wr=>∃(ps:List (List UInt8)) (r:List UInt8) (k:Nat),i=.int .i64 k/\k<=n/\x=r/\r.length<=s.length/\ps.length=k/\Hid (Ai c s=ps++Ai c r)/\Hid (r.count c+k=n) /\
   Hid (∃ys,wr.ownsRow w 9 1 (.slice (w,0) (n+1) (n+1)) (n+1) (Bz ps++ys))/\Hid (Below w w wr)) (fun _ i _=>n - (intOf i).toNat)
 case atStart=>exact⟨[],s,0,rfl,ae _,rfl,Am _,rfl,H0.o,by show _=_;have:=HN.o;omega,⟨_,hown0⟩,(Ar _ _).grown hgrow0 (Am _) aH⟩
 case round=>
  obtain⟨ps,r,k,rfl,hk,rfl,hr,hps,hsp,hct,hown,hb⟩:=hrel;have Hps:=Aa hps;clear hps;by_cases hlt:k<n
  ·have hmem:c∈r:=by
    have:=hct.o;exact List.count_pos_iff.1 aF
   have hix:∃p t,r=p++c::t/\c∉p/\Lib.indexByte r c=(p.length:Int):=by
    rcases Jr r c with⟨h,_⟩|h
    ·exact absurd hmem h
    exact h
   obtain⟨p,t,er,hp,e⟩:=hix;have Hi:=Aa (fun W=>Qem r c W);rw[e]at Hi;have hl:r.length=p.length+1+t.length:=by rw[er];simp;omega
   have H1:=Aa (show r.take p.length=p by rw[er];simp)
   have H2:=Aa (show r.drop (p.length+1)=t by
    rw[er,show p++c::t=(p++[c])++t by simp];exact List.drop_left' aH)
   have Hsp:=Aa (show Ai c s=(ps++[p])++Ai c t by rw[hsp.o,er,Km c p t hp];simp)
   have Hct:=Aa (show t.count c+(k+1)=n by
    have h0:=hct.o;have h1:p.count c=0:=List.count_eq_zero.2 hp;rw[er,List.count_append,h1,List.count_cons_self]at h0;omega)
   obtain⟨ys,hown'⟩:=hown.o;obtain⟨zs,n1,n2,n3,u,n4⟩:=Qbi hown' Hps.o (by omega:k<n+1) p;have N1:=Aa (show (wr.setCell ⟨w.heap.size,k,none⟩ (.string ⟨(r.take p.length).toArray⟩)).ownsRow w 9 1 (.slice (w,0) (n+1) (n+1)) (n+1) (Bz (ps++[p])++zs)by rw[H1.o];exact n1);have N2:=@Aa (Below w w (wr.setCell ⟨w.heap.size,k,none⟩ (.string ⟨(r.take p.length).toArray⟩))) (hb.o.setCell (p:=⟨w.heap.size,k,none⟩) (Am _) _);have k1:(0:Int)<=(p.length:Int):=aF;have k2:(p.length:Int)<=(r.length:Int):=aF;have k3:p.length+1<=r.length:=aF;clear e er hp hmem hown' n1 n2 hl;go_wp2_with fail;refine(Hi.o _).mono ?_;rintro e w' ⟨rfl,rfl⟩;go_wp2_with fail;go_roundw
   case rel=>exact⟨ps++[p],t,k+1,by go_num,by omega,Qg4 H2.o,by have:=congrArg List.length H2.o;simp at this;omega,by rw[af,Hps.o];rfl,Hsp.o,Hct.o,⟨zs,N1.o⟩,N2.o⟩
   case measure=>simp[intOf];omega
  ·obtain rfl:k=n:=aF;have hno:c∉r:=by
    have:=hct.o;exact List.count_eq_zero.1 aF
   have Hsp:=Aa (show Ai c s=ps++[r]by rw[hsp.o,Ft c r hno]);obtain⟨ys,hown'⟩:=hown.o;obtain⟨zs,n1,n2,n3,u,n4⟩:=Qbi hown' Hps.o (by omega:k<k+1) r;have N1:=Aa (Qil n1 (by rw[af,Hps.o];rfl) (Am _));have N2:=@Aa (Below w w (wr.setCell ⟨w.heap.size,k,none⟩ r)) (hb.o.setCell (p:=⟨w.heap.size,k,none⟩) (Am _) _);clear hown' n1 n2 hno;go_wp2_with fail;go_ret;refine⟨_,rfl,?_,N2.o⟩;have e1:(Ai c s).length=k+1:=by rw[Hsp.o,af,Hps.o];rfl
   rw[e1,Hsp.o];exact N1.o
theorem Rn(s:List UInt8)(c:UInt8)(w:World)(hs:s.length<=4000000):
  Calls prog 191 #[s,.string ⟨#[c]⟩] w fun e w'=>
   ∃v,e=.returned v/\w'.ownsRow w 9 1 v (Ai c s).length (Bz (Ai c s))/\Below w w w':=by
 go_enter func191,ntmps191;go_wp2_with fail;refine(Zt s c _ hs).mono ?_;rintro e w' ⟨v,rfl,ho,hb⟩;have Ho:=Aa ho;have Hb:=Aa hb;clear ho hb;go_wp2_with fail;go_ret;exact⟨_,rfl,Ho.o,Hb.o⟩
theorem Ao{c d:UInt8}(h:c≠d):((c.toNat:Int) == (d.toNat:Int))=false:=by
 rw[beq_eq_false_iff_ne];intro e;exact h (UInt8.toNat_inj.1 aF)
theorem Ba{c d:UInt8}(h:c=d):((c.toNat:Int) == (d.toNat:Int))=true:=by rw[h];simp
theorem Qa7(n a b:Int)(w:World):
  Calls prog 125 #[.int .i64 n,.int .i64 a,.int .i64 b] w fun e w'=>e=.returned (.bool (decide (a<=n) && decide (n<=b)))/\w=w':=by
 go_enter func125,ntmps125;by_cases h1:a<=n
 ·have t1:decide (a<=n)=true:=dQ;rw[t1];go_wp2
  exact gZ
 have t1:decide (a<=n)=false:=dQ;rw[t1];go_wp2
 exact gZ
theorem Ck(s:List UInt8)(w:World)(hs:s.length<=9223372036854775807):
  Calls prog 167 #[s] w fun e w'=>e=.returned (.bool (At s))/\w=w':=by
 go_enter func167,ntmps167;go_wp2
 go_loop [3] (fun i=>∃k:Nat,k<=s.length/\i=.int .i64 k/\Hid (∀c∈s.take k,Gx c=true)) (fun i=>s.length - (intOf i).toNat)
 case atStart=>exact⟨0,ae _,rfl,by intro c hc;simp at hc⟩
 case round=>
  obtain⟨k,hk,rfl,hin⟩:=hrel;by_cases hlt:k<s.length
  ·have hc:(s[k]).toNat<256:=(s[k]).toNat_lt;have Hts:=Aa (By s k hlt);have Hm:=Aa (ac hlt);by_cases h1:Gx s[k]=true
   ·have h2:=Mm.1 h1;obtain⟨h3,h4⟩:=h2;have H1:=Aa h1;clear h1;go_wp2
    go_round
    case rel=>
     refine⟨k+1,by omega,by go_num,?_⟩;intro c hc;rw[Hts.o]at hc;rcases ad.1 hc with hc|hc
     ·exact hin.o c hc
     ·simp at hc;subst hc;exact H1.o
    case measure=>simp[intOf];omega
   have hno:At s=false:=by
    cases hh:At s with
    |false=>rfl
    |true=>exact absurd ((Dj.1 hh).2.2 _ Hm.o) h1
   have Hno:=Aa hno;have h2:(s[k]).toNat<97\/122<(s[k]).toNat:=by
    rcases aE (s[k]).toNat 97 with h|h
    ·exact .inl h
    rcases aE 122 (s[k]).toNat with h'|h'
    ·exact .inr h'
    exact absurd (Mm.2 ⟨h,h'⟩) h1
   clear h1 hno;rcases h2 with h2|h2
   ·go_wp2
    go_ret;exact⟨Ec (Cn Hno.o.symm),rfl⟩
   have h3:97<=(s[k]).toNat:=aF;go_wp2
   go_ret;exact⟨Ec (Cn Hno.o.symm),rfl⟩
  ·have hfin:(decide ((1:Int)<=(s.length:Int)) && decide ((s.length:Int)<=3))=At s:=by
    have hall:s.all Gx=true:=List.all_eq_true.2 (fun c hc=>hin.o c (by rw[aq aF];exact hc));unfold At;rw[hall,Bool.and_true];congr 1<;>· rw[decide_eq_decide];omega
   have Hfin:=Aa hfin;clear hfin;go_wp2_with fail;refine(Qa7 _ _ _ _).mono ?_;rintro e w' ⟨rfl,rfl⟩;go_wp2_with fail;go_ret;exact⟨Ec (Cn Hfin.o),rfl⟩
theorem Xe(c:UInt8)(t:List UInt8)(hc:Bm c=true):(Cm (c::t)).isSome=(decide (t.length<12) && (Cm t).isSome):=by
 unfold Cm;simp only[List.dropWhile_cons,List.takeWhile_cons,hc,if_true];by_cases h:12<(c::t).length
 ·exact gQ
 rw[if_neg h];simp at h;have h2:¬12<t.length:=aF;have:t.length<12:=aF;rw[if_neg h2];simp only[this,decide_true,Bool.true_and];by_cases h3:t.dropWhile Bm=[110]\/t.dropWhile Bm=[116]\/t.dropWhile Bm=[102]
 ·rw[if_pos h3,if_pos h3];rfl
 rw[if_neg h3,if_neg h3];by_cases h4:(t.dropWhile Bm).head?=some 64/\(t.dropWhile Bm).getLast?=some 59/\At ((t.dropWhile Bm).drop 1).dropLast=true
 ·rw[if_pos h4,if_pos h4];rfl
 rw[if_neg h4,if_neg h4]
theorem Qhp(t:List UInt8):(Cm (64::t)).isSome=(decide (t.length<12) && decide ((64::t).getLast?=some 59) && At t.dropLast):=by
 unfold Cm;have h64:Bm 64=false:=aI;simp only[List.dropWhile_cons,List.takeWhile_cons,h64];by_cases h:12<(64::t).length
 ·exact gQ
 rw[if_neg h];simp at h;have:t.length<12:=aF;simp[this];split
 ·rename_i hh;simp[hh]
 rename_i hh;simp only[Option.isSome_none];cases hn:At t.dropLast with
 |false=>simp
 |true=>simp[hn]at hh;simp[hh]
theorem Qbv(c:UInt8)(t:List UInt8)(h1:Bm c=false)(h2:c≠64):(Cm (c::t)).isSome=(decide (c::t=[110]) || decide (c::t=[116]) || decide (c::t=[102])):=by
 unfold Cm;simp only[List.dropWhile_cons,List.takeWhile_cons,h1];by_cases h:12<(c::t).length
 ·rw[if_pos h];simp at h;have e:t≠[]:=by rintro rfl;simp at h
  simp[e]
 rw[if_neg h];by_cases h3:c::t=[110]\/c::t=[116]\/c::t=[102]
 ·simp only[ak,if_false];rw[if_pos h3];rcases h3 with h3|h3|h3<;>simp[h3]
 simp only[ak,if_false];rw[if_neg h3,if_neg (by simp[h2])];simp only[not_or]at h3;simp[h3]
theorem Nc:∀(n:Nat) (s:List UInt8) (w:World),s.length<=n->s.length<=9223372036854775807 ->
  Calls prog 107 #[s] w fun e w'=>e=.returned (.bool (Cm s).isSome)/\w=w':=by
 intro n;induction n with
 |zero=>
  intro s w hn hs;obtain rfl:s=[]:=List.eq_nil_of_length_eq_zero aF;go_enter func107,ntmps107;go_wp2_with fail;exact gZ
 |succ n ih=>
  intro s w hn hs;have Ih:=Aa ih;clear ih;by_cases h12:12<s.length
  ·have Hf:=Aa (show (Cm s).isSome=false by unfold Cm;rw[if_pos h12];rfl);go_enter func107,ntmps107;go_wp2_with fail;exact hC
  cases s with
  |nil=>
   go_enter func107,ntmps107;go_wp2_with fail;exact gZ
  |cons c t=>
   have hlt:t.length<12:=by simp at h12;omega
   have hn':t.length<=n:=by simp at hn;omega
   have hc:=c.toNat_lt;by_cases h91:c=91
   ·have Hf:=Aa (show (Cm (c::t)).isSome=(Cm t).isSome by rw[Xe c t (by rw[h91];decide)];simp[hlt]);have e1:c.toNat=91:=by rw[h91];rfl
    have t1:((c.toNat:Int) == 91)=true:=by simp[e1]
    clear h91 e1;go_enter func107,ntmps107;go_wp2_with fail;refine(Ih.o t _ hn' aF).mono ?_;rintro e w' ⟨rfl,rfl⟩;go_wp2_with fail;exact hC
   have t1:((c.toNat:Int) == 91)=false:=Ao h91;by_cases h63:c=63
   ·have Hf:=Aa (show (Cm (c::t)).isSome=(Cm t).isSome by rw[Xe c t (by rw[h63];decide)];simp[hlt]);have e1:c.toNat=63:=by rw[h63];rfl
    have t2:((c.toNat:Int) == 63)=true:=by simp[e1]
    clear h63 h91 e1;go_enter func107,ntmps107;go_wp2_with fail;refine(Ih.o t _ hn' aF).mono ?_;rintro e w' ⟨rfl,rfl⟩;go_wp2_with fail;exact hC
   have t2:((c.toNat:Int) == 63)=false:=Ao h63;by_cases h64:c=64
   ·have e1:c.toNat=64:=by rw[h64];rfl
    have t3:((c.toNat:Int) == 64)=true:=by simp[e1]
    rcases Ej t with rfl|⟨u,d,rfl⟩
    ·have Hf:=Aa (show (Cm [c]).isSome=false by rw[h64];decide);have t4:((c.toNat:Int) == 59)=false:=by simp[e1]
     clear h64 h63 h91 e1;go_enter func107,ntmps107;go_wp2_with fail;exact hC
    have hk:=Qhp (u++[d]);have hl:(c::(u++[d])).getLast?=some d:=by
     exact hD
    rw[<-h64,hl,List.dropLast_concat]at hk;have hd:=d.toNat_lt;simp at hlt;have hgd:∀h,(c::(u++[d]))[u.length+1]'h=d:=by
     intro h;simp
    have hsl:(List.take u.length (u++[d]))=u:=aH;by_cases h59:d=59
    ·have e2:d.toNat=59:=by rw[h59];rfl
     have t4:((d.toNat:Int) == 59)=true:=by simp[e2]
     have Hf:=Aa (show (Cm (c::(u++[d]))).isSome=At u by rw[hk,h59];simp;omega);clear h64 h63 h91 e1 hk hl h59 e2;go_enter func107,ntmps107;go_wp2_with fail;refine(Ck u _ aF).mono ?_;rintro e w' ⟨rfl,rfl⟩;go_wp2_with fail;exact hC
    have t4:((d.toNat:Int) == 59)=false:=Ao h59;have Hf:=Aa (show (Cm (c::(u++[d]))).isSome=false by rw[hk];simp[h59]);clear h64 h63 h91 e1 hk hl h59;go_enter func107,ntmps107;go_wp2_with fail;exact hC
   have t3:((c.toNat:Int) == 64)=false:=Ao h64;have hk:=Qbv c t (by simp[Bm,h91,h63]) h64;have Hk:=Aa hk;clear hk h64 h63 h91;cases t with
   |cons x t=>
    have hl2:t.length+1+1<=12:=by simp at hlt;omega
    have Hf:=Aa (show (Cm (c::x::t)).isSome=false by rw[Hk.o];simp);clear Hk;go_enter func107,ntmps107;go_wp2_with fail;all_goals
     go_ret;exact⟨Ec (Cn (by rw[Hf.o])),rfl⟩
   |nil=>
    by_cases g1:c=110
    ·subst g1;go_enter func107,ntmps107;go_wp2_with fail;exact gZ
    by_cases g2:c=116
    ·subst g2;go_enter func107,ntmps107;go_wp2_with fail;exact gZ
    by_cases g3:c=102
    ·subst g3;go_enter func107,ntmps107;go_wp2_with fail;exact gZ
    have Hf:=Aa (show (Cm [c]).isSome=false by rw[Hk.o];simp[g1,g2,g3]);go_enter func107,ntmps107;go_wp2_with fail;go_ret;exact⟨Ec (Cn (by rw[Hf.o];simp[g1,g2,g3])),rfl⟩
def Qf:Value->Nat
 |.string b=>b.size
 |_=>0
theorem J2(l:List UInt8):Qf l=l.length:=rfl
theorem Qdy(k:Kd)(w:World)(hk:k.signs.all Bm=true)(hb:∃c t,Bk k=c::t/\Bm c=false)(hs:(Be k).length<=9223372036854775807):
  Calls prog 109 #[.string ⟨(Be k).toArray⟩] w fun e w'=>e=.returned (.string ⟨(Bk k).toArray⟩)/\w=w':=by
 obtain⟨d,u,hcu,hd⟩:=hb;have hlen:(Be k).length=k.signs.length+(u.length+1):=by unfold Be;rw[hcu];simp
 unfold Be;rw[hcu];generalize k.signs=g at hk hlen;clear hcu;have hd1:d≠91:=by rintro rfl;revert hd;decide
 have hd2:d≠63:=by rintro rfl;revert hd;decide
 have d1:((d.toNat:Int) == 91)=false:=Ao hd1;have d2:((d.toNat:Int) == 63)=false:=Ao hd2;have hdl:=d.toNat_lt;clear hd hd1 hd2;have hs2:g.length+u.length+1<=9223372036854775807:=aF;have Hk:=Aa (List.all_eq_true.1 hk);clear hs hlen hk;go_enter func109,ntmps109;go_wp2_with fail;go_loop [0] (fun x=>∃k:Nat,k<=g.length/\x=.string ⟨(g.drop k++d::u).toArray⟩) (fun x=>Qf x)
 case atStart=>exact⟨0,ae _,rfl⟩
 case round=>
  obtain⟨k,hk,rfl⟩:=hrel;by_cases hlt:k<g.length
  ·have hdr:g.drop k=g[k]::g.drop (k+1):=List.drop_eq_getElem_cons hlt;have hl3:(g.drop (k+1)).length<=g.length:=aH;have hsg:=Hk.o _ (ac hlt);have hc:=(g[k]).toNat_lt;rw[hdr];generalize g[k]=c at hsg hc;have hsg2:c=91\/c=63:=by simpa [Bm]using hsg
   have Hd:=Aa hdr;clear hsg hdr;rcases hsg2 with h91|h63
   ·have t1:((c.toNat:Int) == 91)=true:=Ba h91;clear h91;go_wp2_with fail;go_round
    case rel=>exact⟨k+1,by omega,Qg4 (aq aH)⟩
    case measure=>rw[J2,J2];simp
   have t1:((c.toNat:Int) == 91)=false:=Ao (d:=91) (by rw[h63];decide);have t2:((c.toNat:Int) == 63)=true:=Ba h63;clear h63;go_wp2_with fail;go_round
   case rel=>exact⟨k+1,by omega,Qg4 (aq aH)⟩
   case measure=>rw[J2,J2];simp
  ·rw[List.drop_of_length_le aF,List.nil_append];go_wp2_with fail;exact gZ
theorem Yf(nm:List UInt8)(w:World)(hn:nm.length<=1000):
  Calls prog 108 #[.string ⟨(64::(nm++[59])).toArray⟩] w fun e w'=>e=.returned (.tuple #[nm,.bool true])/\w=w':=by
 have h1:(nm++[59]).take nm.length=nm:=aH;go_enter func108,ntmps108;go_wp2_with fail;go_ret2;exact hH
theorem Qbz(c:UInt8)(t:List UInt8)(w:World)(hc:c≠64)(hn:t.length<=1000):
  Calls prog 108 #[.string ⟨(c::t).toArray⟩] w fun e w'=>e=.returned (.tuple #[a6,.bool false])/\w=w':=by
 have t1:((c.toNat:Int) != 64)=true:=by
  have:=Ao hc;rw[bne_iff_ne];intro e;have h64:((64:UInt8).toNat:Int)=64:=rfl;rw[beq_eq_false_iff_ne,h64]at this;exact this e
 clear hc;go_enter func108,ntmps108;go_wp2_with fail;go_ret2;exact hH
def Qik:List UInt8:=[97,98,99,100,101,102,103,104,105,106,107,108,109,110,111,112,113,114,115,116,117,118,119,120,121,122]
def Qdq:List UInt8:=[97,98,99,100,101,102,103,104,105,106,107,108,109,110,111,112,113,114,115,116,117,118,119,120,121,122,48,49,50,51,52,53,54,55,56,57,32]
theorem Pm{p:UInt8->Bool}(h:∀n,n<256->p (UInt8.ofNat n)=true)(c:UInt8):p c=true:=by
 have:=h c.toNat c.toNat_lt;rwa [UInt8.ofNat_toNat]at this
theorem Qh4(c:UInt8):Qik.contains c=Gx c:=by
 have:=Pm (p:=fun c=>Qik.contains c == Gx c) ew c;simpa using this
theorem Qa8(c:UInt8):Qdq.contains c=B0 c:=by
 have:=Pm (p:=fun c=>Qdq.contains c == B0 c) ew c;simpa using this
theorem Qiv(s:List UInt8):s.all (Qik.contains ·)=s.all Gx:=by congr 1;funext c;exact Qh4 c
theorem Qi1(s:List UInt8):s.all (Qdq.contains ·)=s.all B0:=by congr 1;funext c;exact Qa8 c
theorem J4(s:List UInt8)(w:World)(hs:s.length<=9223372036854775807):
  Calls prog 153 #[s] w fun e w'=>e=.returned (.bool (At s))/\Below w w w':=by
 by_cases h1:1<=s.length
 ·by_cases h3:s.length<=3
  ·have hT:=fun W=>Qbj s Qik W hs aI aI;simp only[Qiv]at hT;have HT:=Aa hT;have hn:At s=s.all Gx:=by simp[At,h1,h3]
   have Hn:=Aa hn;clear hn hT;go_enter func153,ntmps153;go_wp2_with fail;refine(HT.o _).mono ?_;rintro e w' ⟨⟨r,rfl,hr⟩,hb⟩;cases r with
   |nil=>
    have Hr:=Aa (hr.1 rfl);clear hr;go_wp2_with fail;exact hJ
   |cons x r=>
    have Hr:=Aa (show s.all Gx=false by
     cases h:s.all Gx with
     |false=>rfl
     |true=>exact absurd (hr.2 h) aH)
    clear hr;go_wp2_with fail;exact hJ
  have Hn:=Aa (show At s=false by simp[At,h3]);go_enter func153,ntmps153;go_wp2_with fail;exact hM
 have Hn:=Aa (show At s=false by simp[At,h1]);go_enter func153,ntmps153;go_wp2_with fail;exact hM
theorem Qc4(s:List UInt8)(w:World)(hs:s.length<=9223372036854775807):
  Calls prog 198 #[s] w fun e w'=>e=.returned (.bool (Dk s))/\Below w w w':=by
 by_cases h3:s.length<=12
 ·have hT:=fun W=>Qbj s Qdq W hs aI aI;simp only[Qi1]at hT;have HT:=Aa hT;have hn:Dk s=s.all B0:=by simp[Dk,h3]
  have Hn:=Aa hn;have t0:decide ((s.length:Int)<=12)=true:=aL;clear hn hT;go_enter func198,ntmps198;go_wp2_with fail;refine(HT.o _).mono ?_;rintro e w' ⟨⟨r,rfl,hr⟩,hb⟩;cases r with
  |nil=>
   have Hr:=Aa (hr.1 rfl);clear hr;go_wp2_with fail;exact hJ
  |cons x r=>
   have Hr:=Aa (show s.all B0=false by
    cases h:s.all B0 with
    |false=>rfl
    |true=>exact absurd (hr.2 h) aH)
   clear hr;go_wp2_with fail;exact hJ
 have Hn:=Aa (show Dk s=false by simp[Dk,h3]);have t0:decide ((s.length:Int)<=12)=false:=aL;go_enter func198,ntmps198;go_wp2_with fail;exact hM
def pnV(s:List UInt8)(m:Nat):Value:=
 match Cg s with
 |none=>.tuple #[.int .i64 0,.bool false]
 |some n=>.tuple #[.int .i64 n,.bool (decide (n<=m))]
theorem Qd{s:List UInt8}{m:Nat}(h:Cg s=none):pnV s m=.tuple #[.int .i64 0,.bool false]:=by unfold pnV;rw[h]
theorem Qp{s:List UInt8}{m n:Nat}(h:Cg s=some n):pnV s m=.tuple #[.int .i64 n,.bool (decide (n<=m))]:=by unfold pnV;rw[h]
theorem Zq(s:List UInt8)(k:Nat)(hk:k<=6)(h:(s.take k).all Az=true):Fm (s.take k)<=999999:=by
 exact hO
theorem Ez(s:List UInt8)(m:Nat)(w:World)(hs:s.length<=9223372036854775807)(hm:m<=999999):
  Calls prog 201 #[s,.int .i64 m] w fun e w'=>e=.returned (pnV s m)/\w=w':=by
 rcases aE s.length 1 with h1|h1
 ·obtain rfl:s=[]:=List.eq_nil_of_length_eq_zero aF;have Hn:=Aa (Qd (m:=m) (show Cg []=none by rfl));go_enter func201,ntmps201;go_wp2_with fail;go_ret2;exact hY
 rcases aE 6 s.length with h6|h6
 ·have Hn:=Aa (Qd (m:=m) (show Cg s=none by unfold Cg;rw[if_neg];rintro⟨_,h,_⟩;omega));go_enter func201,ntmps201;go_wp2_with fail;go_ret2;exact hY
 have hc0:=(s[0]' aF).toNat_lt;have h3:(s[0]' aF=48/\1<s.length)\/((((s[0]' aF).toNat:Int) == 48)=true/\s.length<=1)\/((((s[0]' aF).toNat:Int) == 48)=false):=by
  by_cases h:s[0]' aF=48
  ·rcases aE 1 s.length with h'|h'
   ·exact .inl ⟨h,h'⟩
   exact .inr (.inl ⟨Ba h,h'⟩)
  exact .inr (.inr (Ao h))
 have hhd:(s.head?≠some 48\/s.length=1)\/(s[0]' aF=48/\1<s.length):=by
  rcases h3 with h|⟨_,h⟩|h
  ·exact .inr h
  ·exact .inl (.inr aF)
  refine .inl (.inl ?_);rw[List.head?_eq_getElem?,List.getElem?_eq_getElem aF];intro e;injection e with e;rw[e]at h;exact absurd h aI
 have Hhd:=Aa hhd;clear hhd;rcases h3 with⟨hz,hl⟩|⟨t0,hl⟩|t0
 ·have Hn:=Aa (Qd (m:=m) (show Cg s=none by
   unfold Cg;rw[if_neg];rintro⟨_,_,_,h|h⟩
   ·apply h;rw[List.head?_eq_getElem?,List.getElem?_eq_getElem aF,hz]
   omega))
  have t0:(((s[0]' aF).toNat:Int) == 48)=true:=Ba hz;have Hz:=Aa hz;go_enter func201,ntmps201;go_wp2_with fail;go_ret2;exact hY
 all_goals
  have Hall:Hid (s.head?≠some 48\/s.length=1):=by
   rcases Hhd.o with h|⟨e,h⟩
   ·exact h
   exfalso
   first
    |omega
    |(rw[e]at t0;exact absurd t0 aI)
  clear Hhd;go_enter func201,ntmps201;go_wp2_with fail;go_loop [6,28] (fun x i=>∃k:Nat,i=.int .i64 k/\k<=s.length/\Hid ((s.take k).all Az=true)/\Fm (s.take k)<=999999/\x=.int .i64 ((Fm (s.take k):Nat):Int)) (fun _ i=>s.length - (intOf i).toNat)
  case atStart=>exact⟨0,rfl,ae _,by simp[Hid],by simp[Fm],by simp[Fm]⟩
  case round=>
   obtain⟨k,rfl,hk,hdig,hv,rfl⟩:=hrel;by_cases hlt:k<s.length
   ·have hc:=(s[k]).toNat_lt;have Hts:=Aa (By s k hlt);by_cases hd:Az s[k]=true
    ·have hd2:=Dd.1 hd;obtain⟨d1,d2⟩:=hd2;have hdig2:(s.take (k+1)).all Az=true:=by
      rw[Hts.o,List.all_append,hdig.o];simp[hd]
     have hv2:=Zq s (k+1) aF hdig2;have Hdig2:=Aa hdig2;have Hv:=Aa (show Fm (s.take (k+1))=10*Fm (s.take k)+((s[k]).toNat - 48)by rw[Hts.o,J3]);clear hd hdig2;go_wp2_with fail;go_round
     case rel=>exact⟨k+1,by go_num,by omega,Hdig2.o,hv2,Qk5 (by rw[Hv.o];omega)⟩
     case measure=>simp[intOf];omega
    have Hn:=Aa (Qd (m:=m) (show Cg s=none by
     unfold Cg;rw[if_neg];rintro⟨_,_,h,_⟩;exact hd (List.all_eq_true.1 h _ (ac hlt))))
    have h2:(s[k]).toNat<48\/(48<=(s[k]).toNat/\57<(s[k]).toNat):=by
     rcases aE (s[k]).toNat 48 with h|h
     ·exact .inl h
     rcases aE 57 (s[k]).toNat with h'|h'
     ·exact .inr ⟨h,h'⟩
     exact absurd (Dd.2 ⟨h,h'⟩) hd
    clear hd;rcases h2 with h2|⟨h2,h4⟩
    ·go_wp2_with fail;go_ret2;exact hY
    go_wp2_with fail;go_ret2;exact hY
   ·have e:s.take k=s:=aq aF
    have Hn:=Aa (Qp (m:=m) (show Cg s=some (Fm (s.take k))by
     have hd:=hdig.o;rw[e]at hd ⊢;unfold Cg;rw[if_pos ⟨by omega,by omega,hd,Hall.o⟩]))
    clear e;generalize Fm (s.take k)=v at hv Hn;by_cases hvm:v<=m
    ·go_wp2_with fail;go_ret2;exact⟨by rw[Hn.o];exact Qiq rfl (Cn (by simp[hvm])),rfl⟩
    go_wp2_with fail;go_ret2;exact⟨by rw[Hn.o];exact Qiq rfl (Cn aL),rfl⟩
abbrev Cc:=List UInt8
def Ru(S:List Ty):Nat->Kd->List Cc->List Cc
 |0,_,out=>out
 |n+1,k,out=>
  if k.base=[64]/\k.name∉out then
   (match Bu S k.name with
    |none=>out++[k.name]
    |some t=>if t.sort=69 then out++[k.name]else t.fields.foldl (fun o f=>Ru S n f.kind o) (out++[k.name]))
  else out
def Qdb(x:Cc)(y:Cc):Bool:=decide (y<x)
def Qke(x:Cc)(out:List Cc):List Cc:=out.takeWhile (Qdb x)++x::out.dropWhile (Qdb x)
def Qk3(x:Cc)(out:List Cc):Bool:=decide ((out.dropWhile (Qdb x)).head?=some x)
def Qu(S:List Ty):Nat->Kd->List Cc->List Cc
 |0,_,out=>out
 |n+1,k,out=>
  if k.base=[64]/\Qk3 k.name out=false then
   (match Bu S k.name with
    |none=>Qke k.name out
    |some t=>if t.sort=69 then Qke k.name out else t.fields.foldl (fun o f=>Qu S n f.kind o) (Qke k.name out))
  else out
def Ev(S:List Ty):List Cc:=S.map (·.name)
theorem Jh{S:List Ty}{n:Cc}:(Bu S n).isSome=true↔n∈Ev S:=by
 unfold Bu Ev;rw[List.find?_isSome];simp
def Qdo(S:List Ty)(out:List Cc):Prop:=out.Nodup/\∀x∈out,x∈Ev S
theorem Qdo.nil(S:List Ty):Qdo S []:=⟨List.nodup_nil,by simp⟩
theorem Qeh:∀(l m:List Cc),l.Nodup->(∀x∈l,x∈m)->l.length<=m.length
 |[],m,_,_=>ae _
 |x::l,m,hn,hs=>by
  obtain⟨h1,h2⟩:=List.nodup_cons.1 hn;have hx:=hs x aH
  have ih:=Qeh l (m.erase x) h2 (fun y hy=>by
   have hne:y≠x:=by rintro rfl;exact h1 hy
   exact(List.mem_erase_of_ne hne).2 (hs y ev))
  have hl:=List.length_erase_of_mem hx;have hp:0<m.length:=List.length_pos_iff.2 (by rintro rfl;cases hx);simp;omega
theorem Qdo.len{S:List Ty}{out:List Cc}(h:Qdo S out):out.length<=S.length:=by
 have:=Qeh out (Ev S) h.1 h.2;simpa [Ev]using this
theorem Qdo.snoc{S:List Ty}{out:List Cc}{x:Cc}(h:Qdo S out)(hx:x∈Ev S)(hn:x∉out):Qdo S (out++[x]):=by
 refine⟨?_,?_⟩
 ·rw[List.nodup_append];refine⟨h.1,by simp,?_⟩;intro a ha b hb;simp at hb;subst hb;rintro rfl;exact hn ha
 intro y hy;rcases ad.1 hy with hy|hy
 ·exact h.2 y hy
 simp at hy;subst hy;exact hx
theorem Ah{B:Nat}{w w':World}{b o:Nat}{cs:List Value}(h:w.rangeAt b o cs)(hb:b<B)(hw:Below B w w'):w'.rangeAt b o cs:=fun j v hv=>(hw.cell (p:=⟨b,o+j,none⟩) hb).trans (h j v hv)
theorem An{B:Nat}{w w':World}{b o n:Nat}(h:w.there b o n)(hb:b<B)(hw:Below B w w'):w'.there b o n:=fun j hj=>by
 rw[hw.cell (p:=⟨b,o+j,none⟩) hb,hw.frozen (p:=⟨b,o+j,none⟩) hb];exact h j hj
theorem Gb{w w':World}{b o:Nat}{cs:List Value}{row:Option Nat}(h:w.rangeAt b o cs)(hg:w.grownBy w' row)(hne:some b≠row):w'.rangeAt b o cs:=fun j v hv=>hg.cell (h j v hv) hne
theorem Gl{w w':World}{b o n:Nat}{row:Option Nat}(h:w.there b o n)(hg:w.grownBy w' row)(hb:b<w.heap.size)(hne:some b≠row):w'.there b o n:=fun j hj=>by
 rw[hg.cell_far ⟨b,o+j,none⟩ hb hne,hg.frozen_far ⟨b,o+j,none⟩ hb hne];exact h j hj
theorem G7{w:World}{b o n:Nat}(h:w.there b o n)(p m:Nat)(h1:o<=p)(h2:p+m<=o+n):w.there b p m:=fun j hj=>by
 have:=h (p+j - o) aF;rwa [show o+(p+j - o)=p+j by omega]at this
theorem Bo(w:World)(cs:List Value)(t:TypeId):(w.alloc (.cells cs.toArray t)).rangeAt w 0 cs:=fun j v hv=>by
 rw[World.cell?_alloc_new];simpa using hv
theorem B9(w:World)(cs:List Value)(t:TypeId):(w.alloc (.cells cs.toArray t)).there w 0 cs.length:=fun j hj=>by
 refine⟨?_,by simp⟩;rw[World.cell?_alloc_new];simp;omega
theorem Ag{B:Nat}{a:World}(b:Nat)(hb:B<=b):∀(vs:List Value) (o:Nat) (w:World),Below B a w->Below B a (w.setCells b o vs)
 |[],_,_,h=>h
 |v::r,o,w,h=>Ag b hb r (o+1) _ (h.setCell hb v)
theorem Bw(b:Nat):∀(vs:List Value) (o:Nat) (w:World),(w.setCells b o vs).heap.size=w.heap.size
 |[],_,_=>rfl
 |v::r,o,w=>by rw[World.setCells,Bw b r];simp
theorem Ab{w:World}{b o:Nat}{cs:List Value}(h:w.rangeAt b o cs)(j:Nat){v:Value}(hv:cs[j]?=some v):w.cell? ⟨b,o+j,none⟩=some v:=h j v hv
theorem Yz{w:World}{b o:Nat}(l1 l2 l3:List Value)(h:w.rangeAt b o (l1++(l2++l3))):w.rangeAt b (o+l1.length) l2:=fun j v hv=>by
 have hj:=(List.getElem?_eq_some_iff.1 hv).1;rw[Nat.add_assoc];exact h _ v (by rw[List.getElem?_append_right aF,Nat.add_sub_cancel_left,List.getElem?_append_left hj];exact hv)
theorem Cv{w:World}{b:Nat}(l1 l2 l3 l2':List Value)(h:w.rangeAt b 0 (l1++(l2++l3)))(hl:l2'.length=l2.length):(w.setCells b l1.length l2').rangeAt b 0 (l1++(l2'++l3)):=fun j v hv=>by
 have hjl:j<l1.length+(l2'.length+l3.length):=by
  have:=(List.getElem?_eq_some_iff.1 hv).1;simpa using this
 have hsome:∀i,i<l2'.length->(w.cell? ⟨b,l1.length+i,none⟩).isSome=true:=fun i hi=>by
  have e:(l1++(l2++l3))[l1.length+i]?=some (l2[i]' aF):=by
   rw[List.getElem?_append_right aF,List.getElem?_append_left aF,Nat.add_sub_cancel_left,List.getElem?_eq_getElem aF]
  have:=h _ _ e;rw[aj]at this;rw[this];rfl
 rw[aj];rcases aE j l1.length with h1|h1
 ·rw[World.cell?_setCells_out b l2' l1.length w ⟨b,j,none⟩ (fun _ _=>.inl h1)];rw[List.getElem?_append_left h1]at hv;have:=h j v (by rw[List.getElem?_append_left h1];exact hv);rwa [aj]at this
 rw[List.getElem?_append_right h1]at hv;rcases aE (j - l1.length) l2'.length with h2|h2
 ·rw[List.getElem?_append_left h2,List.getElem?_eq_getElem h2]at hv;have:=World.cell?_setCells_in b l2' l1.length w hsome (j - l1.length) h2;rw[show l1.length+(j - l1.length)=j by omega]at this;rw[this];exact hv
 rw[World.cell?_setCells_out b l2' l1.length w ⟨b,j,none⟩ (fun _ _=>.inr (by show l1.length+l2'.length<=j;omega))];rw[List.getElem?_append_right h2]at hv;have:=h j v (by rw[List.getElem?_append_right h1,List.getElem?_append_right aF,<-hl];exact hv);rwa [aj]at this
section
variable {P:Program}
theorem Ad{ops:Array Oper}{rest:List Oper}{op:Oper}{a:Act}{w:World}{Q:Exit->Act->World->Prop}(hgd:op.guard=none)(ty:TypeId)(x y:Operand)(ho:op.op=.store ty x y)
  (b o:Nat) (cs:List Value) (hx:a.eval x=.pointer (some ⟨b,o,none⟩)) (hy:a.eval y=.agg cs.toArray)
  (ht:w.there b o cs.length) (hi:(P.info? ty).map (·.size)=some cs.length) (h1:∀v∈cs,v.oneCell'=true)
  (h:∀w',Hid (w'=w.setCells b o cs)->wpList P ops Q rest (a.put op.dst undef) w'):wpList P ops Q (op::rest) a w:=
 wpList_store_mid hgd ty x y ho b o cs.toArray hx hy dT (by simpa using hi) (all_oneCell_toArray h1) (h _ rfl)
theorem Aj{fn:Func}{p q:Tmp}{ty:TypeId}(h:fn.results=#[.cell p ty,.tmp q])(tmps:Array Value)(w:World)(b:Nat)(cs:List Value)(d:TypeDesc)(x:Value)
  (hp:tmps.getD p undef=b) (hq:tmps.getD q undef=x) (hc:w.rangeAt b 0 cs) (hu:P.underlying ty=some d) (hd:d.isRow=true) (hi:(P.info? ty).map (·.size)=some cs.length):
  (results fn tmps).run P w=.ok (.tuple #[.agg cs.toArray,x]) w:=by
 have hp':tmps[p]?.getD undef=b:=dS;have hq':tmps[q]?.getD undef=x:=eD;simp[results,h,hp',hq',asAddr,run_loadVar_mid w b 0 ty cs d hc hu hd hi]
theorem Fj{fn:Func}{r p q:Tmp}{ty:TypeId}(h:fn.results=#[.tmp r,.cell p ty,.tmp q])(tmps:Array Value)(w:World)(b:Nat)(cs:List Value)(d:TypeDesc)(y x:Value)
  (hr:tmps.getD r undef=y) (hp:tmps.getD p undef=b) (hq:tmps.getD q undef=x) (hc:w.rangeAt b 0 cs) (hu:P.underlying ty=some d) (hd:d.isRow=true) (hi:(P.info? ty).map (·.size)=some cs.length):
  (results fn tmps).run P w=.ok (.tuple #[y,.agg cs.toArray,x]) w:=by
 have hp':tmps[p]?.getD undef=b:=dS;have hq':tmps[q]?.getD undef=x:=eD;have hr':tmps[r]?.getD undef=y:=dp;simp[results,h,hp',hq',hr',asAddr,run_loadVar_mid w b 0 ty cs d hc hu hd hi]
end
theorem N3(n:Nat)(w:World)(hn:n<10):
  Calls prog 105 #[.int .i64 n] w fun e w'=>e=.returned (.string ⟨(Au n).toArray⟩)/\Below w w w':=by
 have Hfin:=Aa (Ed hn);have hcv:=fun W=>Py W w 1 (Cw (48+n));rw[Dm aF]at hcv;go_enter func105,ntmps105;go_wp2_with fail;exact hZ
theorem Ns:∀(k n:Nat) (w:World),n<=k->n<=1000000000 ->
  Calls prog 105 #[.int .i64 n] w fun e w'=>e=.returned (.string ⟨(Au n).toArray⟩)/\Below w w w':=by
 intro k;induction k with
 |zero=>intro n w hn h;exact N3 n w aF
 |succ k ih=>
  intro n w hn h;by_cases h10:n<10
  ·exact N3 n w h10
  have Hfin:=Aa (Mw h10);have Hs:=Aa (Ed (show n % 10<10 by omega));have Ih:=Aa (fun W=>ih (n / 10) W aF aF);have hl:=Di 8 (n / 10) eS;have e1:((n:Int) / 10)=((n / 10:Nat):Int):=aF;have e2:((n:Int) % 10)=((n % 10:Nat):Int):=aF;have E1:=Aa e1;have E2:=Aa e2;clear ih e1 e2;go_enter func105,ntmps105;go_wp2_with fail;rw[E1.o];refine(Ih.o _).mono ?_;rintro e w1 ⟨rfl,hb1⟩;have Hb1:=Aa hb1;clear hb1;go_wp2_with fail;rw[E2.o];refine(N3 (n % 10) w1 aF).mono ?_;rintro e w2 ⟨rfl,hb2⟩;have Hb2:=Aa (Hb1.o.trans (hb2.mono Hb1.o.size));rw[Hs.o];clear hb2;go_wp2_with fail;go_ret;exact⟨by rw[Hfin.o];rfl,Hb2.o⟩
def Qjz(b:List UInt8):Prop:=b=[110]\/b=[116]\/b=[102]\/b=[64]
theorem Qf2{s:List UInt8}:Bv [110] s=(match Cg s with|some n=>decide (0<n)|none=>false):=rfl
theorem Qeq{s:List UInt8}:Bv [116] s=(decide (2<s.length) && decide (s.head?=some 39) && decide (s.getLast?=some 39) && Dk (s.drop 1).dropLast):=rfl
theorem Qfn{s:List UInt8}:Bv [102] s=decide (s=[121,101,115]):=rfl
theorem Qdc(s:List UInt8)(w:World)(hs:s.length<=4000000):
  Calls prog 232 #[.string ⟨#[110]⟩,s] w fun e w'=>e=.returned (.bool (Bv [110] s))/\Below w w w':=by
 have Hp:=Aa (fun W=>Ez s 999999 W aF aF);have Hf:=Aa (Qf2 (s:=s));cases hd:Cg s with
 |none=>
  rw[hd]at Hf;have Hv:=Aa (Qd (m:=999999) hd);clear hd;go_enter func232,ntmps232;go_wp2_with fail;refine(Hp.o _).mono ?_;rintro e w' ⟨rfl,rfl⟩;rw[Hv.o];go_wp2_with fail;go_ret;exact⟨Ec (Cn Hf.o.symm),Ar _ _⟩
 |some n=>
  rw[hd]at Hf;have h9:=(Br.1 hd).1;have Hv:=Aa (Qp (m:=999999) hd);have t1:decide (n<=999999)=true:=by simp;exact h9
  clear hd;rcases aE 0 n with hn|hn;all_goals
   go_enter func232,ntmps232;go_wp2_with fail;refine(Hp.o _).mono ?_;rintro e w' ⟨rfl,rfl⟩;rw[Hv.o,t1];go_wp2_with fail;go_ret;exact⟨Ec (Cn (by rw[Hf.o];first|done|(simp;try omega))),Ar _ _⟩
theorem Qdv(s:List UInt8)(w:World)(hs:s.length<=4000000):
  Calls prog 232 #[.string ⟨#[102]⟩,s] w fun e w'=>e=.returned (.bool (Bv [102] s))/\Below w w w':=by
 have Hf:=Aa (Qfn (s:=s));by_cases hy:s=[121,101,115]
 ·subst hy;go_enter func232,ntmps232;go_wp2_with fail;go_ret;exact⟨Ec (Cn (by rw[Hf.o];simp)),Ar _ _⟩
 have Hy:=Aa (show decide (s=[121,101,115])=false by simpa using hy);have ty:(s == [121,101,115])=false:=by simpa using hy
 clear hy;go_enter func232,ntmps232;go_wp2_with fail;go_ret;exact⟨Ec (Cn (by rw[Hf.o,Hy.o])),Ar _ _⟩
theorem Qbk(s:List UInt8)(w:World):
  Calls prog 232 #[.string ⟨#[64]⟩,s] w fun e w'=>e=.returned (.bool (Bv [64] s))/\Below w w w':=by
 go_enter func232,ntmps232;go_wp2_with fail;go_ret;exact i6
theorem Qc8(s:List UInt8)(w:World)(hs:s.length<=4000000):
  Calls prog 232 #[.string ⟨#[116]⟩,s] w fun e w'=>e=.returned (.bool (Bv [116] s))/\Below w w w':=by
 have hf:=Qeq (s:=s);rcases aE 2 s.length with h2|h2
 ·obtain⟨c,u,d,rfl⟩:∃c u d,s=c::(u++[d]):=by
   cases s with
   |nil=>simp at h2
   |cons c t=>
    rcases Ej t with rfl|⟨u,d,rfl⟩
    ·simp at h2
    exact⟨c,u,d,rfl⟩
  have hl:(c::(u++[d])).getLast?=some d:=by
   exact hD
  have hu:((c::(u++[d])).drop 1).dropLast=u:=aH;rw[hl,hu]at hf;have t0:decide (2<(c::(u++[d])).length)=true:=dR;rw[t0]at hf;simp only[List.head?_cons,ah,Bool.true_and]at hf;have Hf:=Aa hf;have hc:=c.toNat_lt;have hd:=d.toNat_lt;have hgd:∀h,(c::(u++[d]))[u.length+1]'h=d:=by intro h;simp
  have hsl:(List.take u.length (u++[d]))=u:=aH;have hul:2<=u.length+1:=by simp at h2;omega
  have hul2:u.length<=4000000:=f9;clear hf hl hu h2 hs t0;by_cases hc39:c=39
  ·have t1:((c.toNat:Int) == 39)=true:=Ba hc39;have Hc:=Aa (show decide (c=39)=true by simpa using hc39);clear hc39;by_cases hd39:d=39
   ·have t2:((d.toNat:Int) == 39)=true:=Ba hd39;have Hd:=Aa (show decide (d=39)=true by simpa using hd39);clear hd39;go_enter func232,ntmps232;go_wp2_with fail;refine(Qc4 u _ aF).mono ?_;rintro e w' ⟨rfl,hb⟩;go_wp2_with fail;go_ret;exact⟨Ec (Cn (by rw[Hf.o,Hc.o,Hd.o];simp)),hb⟩
   have t2:((d.toNat:Int) == 39)=false:=Ao hd39;have Hd:=Aa (show decide (d=39)=false by simpa using hd39);clear hd39;go_enter func232,ntmps232;go_wp2_with fail;go_ret;exact⟨Ec (Cn (by rw[Hf.o,Hd.o];simp)),Ar _ _⟩
  have t1:((c.toNat:Int) == 39)=false:=Ao hc39;have Hc:=Aa (show decide (c=39)=false by simpa using hc39);clear hc39;go_enter func232,ntmps232;go_wp2_with fail;go_ret;exact⟨Ec (Cn (by rw[Hf.o,Hc.o];simp)),Ar _ _⟩
 have e0:decide (2<s.length)=false:=aL;have Hf:=Aa (show Bv [116] s=false by rw[hf,e0];simp);clear e0;have t0:decide (2<(s.length:Int))=false:=aL;clear hf;go_enter func232,ntmps232;go_wp2_with fail;go_ret;exact⟨Ec (Cn Hf.o.symm),Ar _ _⟩
theorem Zl(b s:List UInt8)(w:World)(hb:Qjz b)(hs:s.length<=4000000):
  Calls prog 232 #[b,s] w fun e w'=>e=.returned (.bool (Bv b s))/\Below w w w':=by
 rcases hb with rfl|rfl|rfl|rfl
 ·exact Qdc s w hs
 ·exact Qc8 s w hs
 ·exact Qdv s w hs
 exact Qbk s w
theorem Yq(n:Nat)(w:World)(hn:n<10):
  Calls prog 176 #[.int .i64 n] w fun e w'=>e=.returned (.string ⟨(Au n).toArray⟩)/\Below w w w':=by
 have Hfin:=Aa (Ed hn);have hcv:=fun W=>Py W w 1 (Cw (48+n));rw[Dm aF]at hcv;go_enter func176,ntmps176;go_wp2_with fail;exact hZ
theorem Qcy(n:Nat)(h10:¬n<10)(hn:n<=1000000000)(ih:∀W,Calls prog 176 #[.int .i64 ((n / 10:Nat):Int)] W fun e w'=>e=.returned (.string ⟨(Au (n / 10)).toArray⟩)/\Below W W w')(w:World):
  Calls prog 176 #[.int .i64 n] w fun e w'=>e=.returned (.string ⟨(Au n).toArray⟩)/\Below w w w':=by
 have Hfin:=Aa (Mw h10);have ih':=Aa ih;have hl:=Di 8 (n / 10) eS;clear ih;have hcv:=fun W g=>Py W g 1 (Cw (48+n % 10));have h1:IntKind.u8.wrap (IntKind.i64.wrap (48+(n:Int).tmod 10))=((Cw (48+n % 10)).toNat:Int):=by
  exact i7
 have h2:IntKind.i64.wrap ((n:Int) / 10)=((n / 10:Nat):Int):=fC;go_enter func176,ntmps176;go_wp2_with fail;go_region_with (go_at_call 176;refine(ih'.out _).mono ?_;rintro e w' ⟨rfl,hb⟩;obtain⟨hc,hf,hz⟩:=Bx hb)
 all_goals
  go_wp2
  go_ret;refine⟨by rw[Hfin.o];rfl,?_⟩;have hsz:=hb.size;repeat (first|exact Ar _ _|refine Below.drew ?_|refine Below.alloc ?_ (by simp at hsz ⊢;first|omega|done) _|refine Below.trans ?_ (hb.mono aH))
theorem Jf:∀(k n:Nat) (w:World),n<=k->n<=1000000000 ->
  Calls prog 176 #[.int .i64 n] w fun e w'=>e=.returned (.string ⟨(Au n).toArray⟩)/\Below w w w':=by
 intro k;induction k with
 |zero=>intro n w hn h;exact Yq n w aF
 |succ k ih=>
  intro n w hn h;by_cases h10:n<10
  ·exact Yq n w h10
  exact Qcy n h10 h (fun W=>ih (n / 10) W aF aF) w
end
end Go.Proofs.YtgfmljfjgohdcaaGreatDoor
