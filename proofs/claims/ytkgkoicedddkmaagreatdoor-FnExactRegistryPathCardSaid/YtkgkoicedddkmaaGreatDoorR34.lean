/- Texts joined. Conditions: as each theorem names them. -/
import Derived.Deep.CutRange
import Derived.Deep.DeepCutAuto
import Derived.Test.YtkgkoicedddkmaaGreatDoorR32
set_option maxRecDepth 100000
set_option maxHeartbeats 32000000
set_option linter.unusedVariables false
set_option linter.unusedSimpArgs false
namespace Go.Proofs.YtkgkoicedddkmaaGreatDoor
open Go.RowKit Go.Proofs.Tryz
section
attribute [local go_sem] Qiz Qii Qib Qgw ByteArray.mk_append_mk
theorem Qjm(u:Value)(vs:List Ver)(n:Int)(w:World)(h:Qhb w u vs)(hn:vs.length<=1048577)(hl:∀x∈vs,x.1.length<=4000000/\x.2.length<=4000000)(hlo:-9223372036854775808<=n)(hhi:n<=9223372036854775807):
  Calls prog 22 #[.agg #[u],.int .i64 n] w (Qh6 vs n w):=by
 have Hv:=Aa h;have Hl:=Aa hl;obtain⟨A,c,rfl,hcap,hvm,hr⟩:=h;have Hr:=Aa hr;clear hl hr;go_enter func22,ntmps22;go_wp2_with fail;obtain⟨W1,hW1⟩:∃W1,W1=(w.alloc (.cells #[.slice A vs.length c] 34)).alloc (.cells #[a8,a8] 46):=⟨_,rfl⟩
 rw[<-hW1];have hz1:W1.heap.size=w.heap.size+2:=cS;have B1:=Aa (show Below w w W1 by rw[hW1];exact((Aq _ _).alloc (Ap _) _).alloc aL _);have C1:=Aa (show W1.cell? (w,0)=some (.slice A vs.length c)by rw[hW1];simp[go_sem]);have T1:=Aa (show W1.there (w.heap.size+1) 0 2 by rw[hW1];have:=Cc (w.alloc (.cells #[.slice A vs.length c] 34)) [a8,a8] 46;simpa using this);clear hW1;refine(Qjw _ vs _ (Hv.o.below B1.o) hn Hl.o).mono ?_;rintro e w1 ⟨rfl,hb1⟩;have hz2:=hb1.size;have C2:=Aa ((hb1.cell (p:=⟨w.heap.size,0,none⟩) (show w.heap.size<W1.heap.size by omega)).trans C1.o);have T2:=Aa (Al T1.o aH hb1);have B2:=Aa (B1.o.trans (hb1.mono aH));clear hb1;have c2:=C2.o;cases hok:Qij vs with
 |false=>
  have HN:=Aa (Qj2 (n:=n) hok);clear hok;go_wp2_with ((with_reducible refine Ad (op:=⟨none,.store 46 _ _,_,_,_,none⟩) rfl 46 _ _ rfl (w.heap.size+1) 0 [a8,a8] ?_ ?_ ?_ ?_ ?_ ?_);rfl;rfl;(exact T2.o);kernel_rfl;(simp[Value.oneCell']);intro w9 HS9)
  have HZ:=(by rw[HS9.o];exact aa _ _ _ _ T2.o:w9.rangeAt (w.heap.size+1) 0 [a8,a8])
  refine aF (v:=.tuple #[.agg ([a8,a8]:List Value).toArray,.bool false]) (Ao results22 _ _ (w.heap.size+1) _ _ _ rfl rfl HZ underlying46 rfl aO) rfl ?_;exact Qh6.no HN.o rfl bN
 |true=>
  have HOK:=Aa hok;clear hok;by_cases hin:1<=n/\n<=(vs.length:Int)
  ·obtain⟨k,rfl,hk⟩:∃k:Nat,n=(k:Int)+1/\k<vs.length:=⟨(n - 1).toNat,by omega,by omega⟩
   have HA:=Aa (Qkc HOK.o hk);obtain⟨b,off,rfl,hbl,x0,x1⟩:=Qhb.at_ (Hr.o.below B2.o) hk;have Hxv:=@Aa (Qca vs k=vs[k]) (Qgx hk);generalize vs[k]=x at x0 x1 Hxv;have t1:decide ((k:Int)+1<1)=false:=aC aH;have t2:decide ((vs.length:Int)<(k:Int)+1)=false:=aC aH;have hcap2:(k:Int)<(c:Int):=aH;go_wp2_with ((with_reducible refine Ad (op:=⟨none,.store 46 _ _,_,_,_,none⟩) rfl 46 _ _ rfl (w.heap.size+1) 0 [x.1,x.2] ?_ ?_ ?_ ?_ ?_ ?_);rfl;rfl;(exact T2.o);kernel_rfl;(simp[Value.oneCell']);intro w9 HS9)
   have HZ:=(by rw[HS9.o];exact aa _ _ _ _ T2.o:w9.rangeAt (w.heap.size+1) 0 [x.1,x.2])
   refine aF (v:=.tuple #[.agg ([x.1,x.2]:List Value).toArray,.bool true]) (Ao results22 _ _ (w.heap.size+1) _ _ _ rfl rfl HZ underlying46 rfl aO) rfl ?_;exact Qh6.yes (HA.o.trans (congrArg some Hxv.o)) rfl bN
  have HN:=Aa (Qj1 hin);by_cases h1:n<1
  ·have t1:decide (n<1)=true:=aD h1;go_wp2_with ((with_reducible refine Ad (op:=⟨none,.store 46 _ _,_,_,_,none⟩) rfl 46 _ _ rfl (w.heap.size+1) 0 [a8,a8] ?_ ?_ ?_ ?_ ?_ ?_);rfl;rfl;(exact T2.o);kernel_rfl;(simp[Value.oneCell']);intro w9 HS9)
   have HZ:=(by rw[HS9.o];exact aa _ _ _ _ T2.o:w9.rangeAt (w.heap.size+1) 0 [a8,a8])
   refine aF (v:=.tuple #[.agg ([a8,a8]:List Value).toArray,.bool false]) (Ao results22 _ _ (w.heap.size+1) _ _ _ rfl rfl HZ underlying46 rfl aO) rfl ?_;exact Qh6.no HN.o rfl bN
  have t1:decide (n<1)=false:=aC h1;have h2:(vs.length:Int)<n:=aH;have t2:decide ((vs.length:Int)<n)=true:=aD h2;go_wp2_with ((with_reducible refine Ad (op:=⟨none,.store 46 _ _,_,_,_,none⟩) rfl 46 _ _ rfl (w.heap.size+1) 0 [a8,a8] ?_ ?_ ?_ ?_ ?_ ?_);rfl;rfl;(exact T2.o);kernel_rfl;(simp[Value.oneCell']);intro w9 HS9)
  have HZ:=(by rw[HS9.o];exact aa _ _ _ _ T2.o:w9.rangeAt (w.heap.size+1) 0 [a8,a8])
  refine aF (v:=.tuple #[.agg ([a8,a8]:List Value).toArray,.bool false]) (Ao results22 _ _ (w.heap.size+1) _ _ _ rfl rfl HZ underlying46 rfl aO) rfl ?_;exact Qh6.no HN.o rfl bN
section
variable {P:Program}
theorem Qis{fn:Func}{r p p2 q:Tmp}{ty ty2:TypeId}(h:fn.results=#[.tmp r,.cell p ty,.cell p2 ty2,.tmp q])(tmps:Array Value)(w:World)(b b2:Nat)(cs cs2:List Value)(d d2:TypeDesc)(y x:Value)
  (hr:tmps.getD r undef=y) (hp:tmps.getD p undef=b) (hp2:tmps.getD p2 undef=b2) (hq:tmps.getD q undef=x) (hc:w.rangeAt b 0 cs) (hc2:w.rangeAt b2 0 cs2)
  (hu:P.underlying ty=some d) (hd:d.isRow=true) (hi:(P.info? ty).map (·.size)=some cs.length) (hu2:P.underlying ty2=some d2) (hd2:d2.isRow=true) (hi2:(P.info? ty2).map (·.size)=some cs2.length):
  (results fn tmps).run P w=.ok (.tuple #[y,.agg cs.toArray,.agg cs2.toArray,x]) w:=by
 have hp':tmps[p]?.getD undef=b:=du;have hp2':tmps[p2]?.getD undef=b2:=by simpa using hp2
 have hq':tmps[q]?.getD undef=x:=fc;have hr':tmps[r]?.getD undef=y:=dv;simp[results,h,hp',hp2',hq',hr',asAddr,run_loadVar_mid w b 0 ty cs d hc hu hd hi,run_loadVar_mid w b2 0 ty2 cs2 d2 hc2 hu2 hd2 hi2]
end
theorem Qt.low{lo lo':Nat}{w:World}{p:Value}{xs:List PT}(h:Qt lo w p xs)(hl:lo'<=lo):Qt lo' w p xs:=by
 obtain⟨b,A,c,mb,e,h0,h1,h2,h3,h4,h5,h6,l1,l2,l3,l4⟩:=h;exact⟨b,A,c,mb,e,h0,h1,h2,h3,h4,h5,h6,by omega,by omega,fun g o hn e=>by have:=l3 g o hn e;omega,fun x hx=>⟨by have:=(l4 x hx).1;omega,fun k hn hk=>by have:=(l4 x hx).2 k hn hk;omega⟩⟩
def Qji(o:Option (List Ty × Kd))(x:List UInt8)(w:World)(e:Ending)(w':World):Prop:=
 (∃p k1 k2 k3 v sl,e=.returned (.tuple #[.pointer p,.agg #[.string k1,.string k2,.string k3],D9 v sl,.bool (Qiq o x).isSome])/\Dx (fun c=>w.heap.size<=c) w' sl v.kids /\
  ∀y,Qiq o x=some y->v=y/\∃S k xs,o=some (S,k)/\Ae xs=S/\k1=⟨k.signs.toArray⟩/\k2=⟨k.base.toArray⟩/\k3=⟨k.name.toArray⟩/\Qt w.heap.size w' (.pointer p) xs)/\Below w w w'
theorem Qji.no{o:Option (List Ty × Kd)}{x:List UInt8}{w w':World}{e:Ending}(ho:Qiq o x=none){p:Option Addr}{k1 k2 k3:ByteArray}{v:Vl}{sl:Value}(he:e=.returned (.tuple #[.pointer p,.agg #[.string k1,.string k2,.string k3],D9 v sl,.bool false]))(hs:Dx (fun c=>w.heap.size<=c) w' sl v.kids)(hb:Below w w w'):Qji o x w e w':=by
 refine⟨⟨p,k1,k2,k3,v,sl,by rw[ho];exact he,hs,fun y hy=>?_⟩,hb⟩;rw[ho]at hy;cases hy
theorem Qjv(s d x:List UInt8)(w:World)(hs:s.length<=4000000)(hd:d.length<=4000000)(hx:x.length<=4000000):
  Calls prog 39 #[s,d,x] w (Qji (Bn s d) x w):=by
 have Hbo:=Aa (fun W=>Xt s d W hs hd);have HGo:=Aa (fun S k (h:Bn s d=some (S,k))=>Du h);generalize Bn s d=o at *;go_enter func39,ntmps39;go_wp2_with fail;obtain⟨W1,hW1⟩:∃W1,W1=(w.alloc (.cells #[a8,a8,a8] 62)).alloc (.cells #[.int .u8 0,a8,.int .i64 0,.slice none 0 0] 40):=⟨_,rfl⟩
 rw[<-hW1];have hz1:W1.heap.size=w.heap.size+2:=cS;have B1:=Aa (show Below w w W1 by rw[hW1];exact((Aq _ _).alloc (Ap _) _).alloc aL _);have TK1:=Aa (show W1.there w 0 3 by rw[hW1];exact ar (Cc w [a8,a8,a8] 62) _);have TV1:=Aa (show W1.there (w.heap.size+1) 0 4 by rw[hW1];have:=Cc (w.alloc (.cells #[a8,a8,a8] 62)) [.int .u8 0,a8,.int .i64 0,.slice none 0 0] 40;simpa using this);clear hW1;refine(Hbo.o W1).mono ?_;rintro e W2 ⟨hcase,hb2⟩;have hz2:=hb2.size;have TK2:=Aa (Al TK1.o aH hb2);have TV2:=Aa (Al TV1.o aH hb2);have B2:=Aa (B1.o.trans (hb2.mono aH));clear hb2;cases o with
 |none=>
  obtain⟨p,a,b,c,rfl⟩:=hcase;obtain⟨W3,hW3⟩:∃W3,W3=W2.alloc (.cells #[.string a,.string b,.string c] 62):=⟨_,rfl⟩
  have hb3:Below W2 W2 W3:=cX;have TK3:=Aa (Al TK2.o aH hb3);have TV3:=Aa (Al TV2.o aH hb3);have B3:=Aa (B2.o.trans (hb3.mono B2.o.size));have HW3:=Aa hW3;clear hb3 hW3;go_wp2_with (first|((with_reducible refine Ad (op:=⟨none,.store 62 _ _,_,_,_,none⟩) rfl 62 _ _ rfl w 0 [a8,a8,a8] ?_ ?_ ?_ ?_ ?_ ?_);rfl;rfl;(rw[<-HW3.o];exact TK3.o);kernel_rfl;(simp[Value.oneCell']);intro w8 HS8)|((with_reducible refine Ad (op:=⟨none,.store 40 _ _,_,_,_,none⟩) rfl 40 _ _ rfl (w.heap.size+1) 0 [.int .u8 0,a8,.int .i64 0,.slice none 0 0] ?_ ?_ ?_ ?_ ?_ ?_);rfl;rfl;(rw[HS8.o,<-HW3.o];exact ai TV3.o _ _ _);kernel_rfl;(simp[Value.oneCell']);intro w9 HS9))
  rw[<-HW3.o]at HS8;have TV8:=Aa (show w8.there (w.heap.size+1) 0 4 by rw[HS8.o];exact ai TV3.o _ _ _);have RK8:=Aa (show w8.rangeAt w 0 [a8,a8,a8]by rw[HS8.o];exact aa _ _ _ _ TK3.o);have B8:=Aa (show Below w w w8 by rw[HS8.o];exact Ag _ (Ap _) _ _ _ B3.o);have RK9:=(by rw[HS9.o];exact ak RK8.o _ _ _ (.inl aH):w9.rangeAt w 0 [a8,a8,a8])
  have RV9:=(by rw[HS9.o];exact aa _ _ _ _ TV8.o:w9.rangeAt (w.heap.size+1) 0 [.int .u8 0,a8,.int .i64 0,.slice none 0 0])
  refine aF (v:=.tuple #[.pointer none,.agg ([a8,a8,a8]:List Value).toArray,.agg ([.int .u8 0,a8,.int .i64 0,.slice none 0 0]:List Value).toArray,.bool false]) ?_ rfl ?_
  ·exact Qis results39 _ _ w.heap.size (w.heap.size+1) _ _ _ _ _ _ rfl rfl rfl rfl RK9 RV9 underlying62 rfl aO underlying40 rfl aO
  exact Qji.no (v:=En) (sl:=.slice none 0 0) rfl rfl (Dx.nil _ _) (by rw[HS9.o];exact Ag _ aH _ _ _ B8.o)
 |some y=>
  obtain⟨S,k⟩:=y;obtain⟨p,xs,rfl,rfl,hsl⟩:=hcase;obtain⟨g1,_,_,g4,_,g6⟩:=HGo.o _ k rfl;have Hsl:=@Aa (Qt (w.heap.size+2) W2 p xs) (by rw[<-hz1];exact hsl);obtain⟨pb,_,_,_,rfl,_⟩:=hsl;have Hrd:=Aa (fun W (h:Q9 W pb xs)=>Qdx pb xs g1 k g4 g6 x W h hx);have HV:=@Aa (Qiq (some (Ae xs,k)) x=G7 (Ae xs) k x) rfl;generalize G7 (Ae xs) k x=o at *;clear g1 g4 g6 HGo Hbo;obtain⟨W3,hW3⟩:∃W3,W3=W2.alloc (.cells #[k.signs,k.base,k.name] 62):=⟨_,rfl⟩
  have hb3:Below W2 W2 W3:=cX;have TK3:=Aa (Al TK2.o aH hb3);have TV3:=Aa (Al TV2.o aH hb3);have B3:=Aa (B2.o.trans (hb3.mono B2.o.size));have SL3:=Aa (Hsl.o.below hb3);have RS3:=Aa (show W3.rangeAt W2 0 [k.signs,k.base,k.name]by rw[hW3];exact Bw W2 [k.signs,k.base,k.name] 62);have hz3:W3.heap.size=W2.heap.size+1:=by rw[hW3];simp
  have HW3:=Aa hW3;clear hb3 hW3;unfold D2 at Hrd ⊢;go_wp2_with fail;rw[<-HW3.o];refine(Hrd.o W3 SL3.o.isc).mono ?_;rintro e W4 ⟨⟨vl,sl,rfl,hs4,hx4⟩,hb4⟩;obtain⟨A4,c4,rfl⟩:=hs4.form;have hz4:=hb4.size;have Hx4:=Aa hx4;obtain⟨W5,hW5⟩:∃W5,W5=W4.alloc (.cells #[.int .u8 (vl.what.toNat:Int),vl.text,(vl.tag:Int),.slice A4 vl.kids.length c4] 40):=⟨_,rfl⟩
  have hb45:Below W4 W4 W5:=ey;have hb5:Below W3 W3 W5:=hb4.trans (hb45.mono hb4.size);have TK5:=Aa (Al TK3.o aH hb5);have TV5:=Aa (Al TV3.o aH hb5);have B5:=Aa (B3.o.trans (hb5.mono B3.o.size));have SL5:=Aa (SL3.o.below hb5);have RS5:=Aa (Aj RS3.o aH hb5);have RV5:=Aa (show W5.rangeAt W4 0 (J5 (vl,.slice A4 vl.kids.length c4))by rw[hW5];exact Bw W4 (J5 (vl,.slice A4 vl.kids.length c4)) 40);have HS5:=Aa ((hs4.after hb45).mono (Q:=fun c=>w.heap.size+2<=c) fun c hc _=>by have:W3.heap.size<=c:=hc;omega);have HW5:=Aa hW5;have hz5:W4.heap.size<W5.heap.size:=fx;clear hW5 hb45 hb5 hb4 hs4 hx4 Hrd;unfold D9;go_upto_region 5 with fail
  rw[<-HW5.o];refine Ge [32,33,34,35,6,999,998,9]
   (fun ix v W=>match ix with|0=>v=pb|1=>v=.agg #[k.signs,k.base,k.name]|2=>v=.agg #[.int .u8 (vl.what.toNat:Int),vl.text,(vl.tag:Int),.slice A4 vl.kids.length c4]|3=>v=.bool o.isSome|4=>v=pb|7=>v=.bool o.isSome|_=>True)
   (fun L U W=>Below w w W/\W.there w 0 3/\W.there (w.heap.size+1) 0 4/\W.rangeAt W2 0 [k.signs,k.base,k.name]/\W.rangeAt W4 0 (J5 (vl,.slice A4 vl.kids.length c4))/\Qt (w.heap.size+2) W pb xs/\Dx (fun c=>w.heap.size+2<=c) W (.slice A4 vl.kids.length c4) vl.kids/\(L 5=true->W.rangeAt w 0 [k.signs,k.base,k.name])/\(L 6=true->W.rangeAt (w.heap.size+1) 0 (J5 (vl,.slice A4 vl.kids.length c4)))) (⟨B5.o.drew,by simpa using TK5.o,by simpa using TV5.o,by simpa using RS5.o,by simpa using RV5.o,SL5.o.below ((Aq _ _).drew),HS5.o.after ((Aq _ _).drew),fun h=>Bool.noConfusion h,fun h=>Bool.noConfusion h⟩) ?_ ?_
  ·repeat (first|exact Ah.nil|(refine Ah.cons ?_ ?_;rotate_left))
   all_goals
    rintro L U W hL hpre HR Hdep K hK;obtain⟨r1,r2,r3,r4,r5,r6,r7,r8,r9⟩:=HR.o;have c0:W.cell? (W2,0)=k.signs:=by simpa using Ab r4 0 rfl
    have c1:W.cell? (W2,1)=k.base:=by simpa using Ab r4 1 rfl
    have c2:W.cell? (W2,2)=k.name:=by simpa using Ab r4 2 rfl
    have d0:W.cell? (W4,0)=some (.int .u8 (vl.what.toNat:Int)):=by simpa using Ab r5 0 rfl
    have d1:W.cell? (W4,1)=vl.text:=by simpa using Ab r5 1 rfl
    have d2:W.cell? (W4,2)=(vl.tag:Int):=by simpa using Ab r5 2 rfl
    have d3:W.cell? (W4,3)=some (.slice A4 vl.kids.length c4):=by simpa using Ab r5 3 rfl
    first|(simp[Region.binds]at hpre;done)|simp[Region.binds]at hpre|clear hpre
   iterate 5
    ·exact hG
   ·have u1:U 1=.agg #[k.signs,k.base,k.name]:=dK;rw[if_pos cD];refine wp_store_mid 62 _ _ rfl w 0 ([k.signs,k.base,k.name]:List Value).toArray rfl u1 r2 aO bj ?_;exact hK undef _ _ Ac Ac ⟨Ag _ (Ap _) _ _ _ r1,ai r2 _ _ _,ai r3 _ _ _,ak r4 _ _ _ (.inl aH),ak r5 _ _ _ (.inl aH),r6.far (Es _ _ _ W) aH,r7.grown (Es _ _ _ W) (fun b hb e=>by injection e with e;have:w.heap.size+2<=b:=hb;omega),fun _=>aa _ _ _ _ r2,fun h=>ak (r9 h) _ _ _ (.inl aH)⟩ rfl
   ·have u1:U 2=.agg #[.int .u8 (vl.what.toNat:Int),vl.text,(vl.tag:Int),.slice A4 vl.kids.length c4]:=dK;rw[if_pos cD];refine wp_store_mid 40 _ _ rfl (w.heap.size+1) 0 (J5 (vl,.slice A4 vl.kids.length c4)).toArray rfl u1 r3 aO (by simp[J5,Value.oneCell']) ?_;exact hK undef _ _ Ac Ac ⟨Ag _ aH _ _ _ r1,ai r2 _ _ _,ai r3 _ _ _,ak r4 _ _ _ (.inl aH),ak r5 _ _ _ (.inl aH),r6.far (Es _ _ _ W) aH,r7.grown (Es _ _ _ W) (fun b hb e=>by injection e with e;have:w.heap.size+2<=b:=hb;omega),fun h=>ak (r8 h) _ _ _ (.inl aH),fun _=>aa _ _ _ _ r3⟩ rfl
   ·exact hG
  rintro L U W hL hφ hR;have e4:U 4=pb:=hφ 4 aK;have e7:U 7=.bool o.isSome:=hφ 7 aK;simp only[e4,e7];clear hφ;obtain⟨r1,r2,r3,r4,r5,r6,r7,r8,r9⟩:=hR;have R1:=Aa r1;have R6:=Aa r6;have R7:=Aa r7;have R8:=Aa (r8 (hL 5 aK));have R9:=Aa (r9 (hL 6 aK));clear hL r1 r2 r3 r4 r5 r6 r7 r8 r9;go_wp2_with fail;refine aF (v:=.tuple #[pb,.agg ([k.signs,k.base,k.name]:List Value).toArray,.agg (J5 (vl,.slice A4 vl.kids.length c4)).toArray,.bool o.isSome]) ?_ rfl ?_
  ·exact Qis results39 _ _ w.heap.size (w.heap.size+1) _ _ _ _ _ _ rfl rfl rfl rfl R8.o R9.o underlying62 rfl aO underlying40 rfl aO
  refine⟨⟨_,_,_,_,vl,_,by rw[HV.o];rfl,R7.o.mono (fun c hc _=>by have:w.heap.size+2<=c:=hc;omega),fun y hy=>?_⟩,R1.o⟩;rw[HV.o]at hy;exact⟨Hx4.o y hy,_,k,xs,rfl,rfl,rfl,rfl,rfl,R6.o.low aH⟩
theorem Qjg(s d x:List UInt8)(w:World)(hs:s.length<=4000000)(hd:d.length<=4000000)(hx:x.length<=4000000):
  Calls prog 23 #[s,d,x] w (fun e w'=>e=.returned (.bool (Qiq (Bn s d) x).isSome)/\Below w w w'):=by
 have H:=@Aa (∀W,Calls prog 39 #[s,d,x] W fun e w'=>(∃p k1 k2 k3 v A n c,e=.returned (.tuple #[.pointer p,.agg #[.string k1,.string k2,.string k3],D9 v (.slice A n c),.bool (Qiq (Bn s d) x).isSome]))/\Below W W w') (fun W=>(Qjv s d x W hs hd hx).mono fun e w1 ⟨⟨p,k1,k2,k3,v,sl,he,hs1,_⟩,hb1⟩=>⟨by obtain⟨A,c,rfl⟩:=hs1.form;exact⟨p,k1,k2,k3,v,A,_,c,he⟩,hb1⟩);generalize (Qiq (Bn s d) x).isSome=ok at *;go_enter func23,ntmps23;go_wp2_with fail;refine(H.o _).mono ?_;rintro e w1 ⟨⟨p,k1,k2,k3,v,A1,n1,c1,rfl⟩,hb1⟩;have Hb1:=Aa hb1;clear hb1;unfold D9;go_wp2_with fail;go_ret;exact⟨rfl,(Hb1.o.alloc Hb1.o.size _).alloc (by have:=Hb1.o.size;simp;omega) _⟩
theorem Qj4(u:Value)(vs:List Ver)(n:Int)(x:List UInt8)(w:World)(h:Qhb w u vs)(hn:vs.length<=1048577)(hl:∀y∈vs,y.1.length<=4000000/\y.2.length<=4000000)(hlo:-9223372036854775808<=n)(hhi:n<=9223372036854775807)(hx:x.length<=4000000):
  Calls prog 13 #[.agg #[u],.int .i64 n,x] w (Qkf (Qhy vs n x) w):=by
 have Hv:=Aa h;have Hl:=Aa hl;have Ha:=Aa (fun W (hW:Qhb W u vs)=>Qjm u vs n W hW hn hl hlo hhi);obtain⟨A,c,rfl,hcap,hvm,hr⟩:=h;have Hr:=Aa hr;clear hl hr;go_enter func13,ntmps13;go_wp2_with fail;obtain⟨W1,hW1⟩:∃W1,W1=w.alloc (.cells #[.slice A vs.length c] 34):=⟨_,rfl⟩
 rw[<-hW1];have hz1:W1.heap.size=w.heap.size+1:=cS;have B1:=Aa (show Below w w W1 by rw[hW1];exact(Aq _ _).alloc (Ap _) _);have C1:=Aa (show W1.cell? (w,0)=some (.slice A vs.length c)by rw[hW1];simp[go_sem]);clear hW1;refine(Ha.o W1 (Hv.o.below B1.o)).mono ?_;rintro e w2 ⟨a,b,rfl,hab,hb2⟩;have hz2:=hb2.size;have C2:=Aa ((hb2.cell (p:=⟨w.heap.size,0,none⟩) (show w.heap.size<W1.heap.size by omega)).trans C1.o);have B2:=Aa (B1.o.trans (hb2.mono aH));clear hb2;obtain⟨W3,hW3⟩:∃W3,W3=w2.alloc (.cells #[.string a,.string b] 46):=⟨_,rfl⟩
 have hz3:W3.heap.size=w2.heap.size+1:=by rw[hW3];simp
 have b3:Below w2 w2 W3:=cX;have B3:=Aa (B2.o.trans (b3.mono B2.o.size));have C3:=Aa ((b3.cell (p:=⟨w.heap.size,0,none⟩) (show w.heap.size<w2.heap.size by omega)).trans C2.o);have T3:=Aa (show W3.there w2 0 2 by rw[hW3];exact Cc w2 [.string a,.string b] 46);have R3:=Aa (show W3.rangeAt w2 0 [.string a,.string b]by rw[hW3];exact Bw w2 [.string a,.string b] 46);have HW3:=Aa hW3;clear b3 hW3;cases hat:atL vs n with
 |none=>
  have HN:=Aa (show Qhy vs n x=none by unfold Qhy;rw[hat]);clear hat hab;go_wp2_with fail;rw[<-HW3.o];refine aF (v:=.tuple #[a8,.bool false]) (by simp[results,results13,go_sem]) rfl ?_;exact⟨by rw[HN.o];rfl,B3.o⟩
 |some v=>
  obtain⟨rfl,rfl⟩:=hab v hat;have HP:=Aa (show Qhy vs n x=if (Qiq (Bn v.1 v.2) x).isSome=true then goP v (vs.drop n.toNat) x else none by unfold Qhy;rw[hat]);obtain⟨_,k0,rfl,hk0,hv0⟩:=Qjp hat;have hlv:v.1.length<=4000000/\v.2.length<=4000000:=Hl.o v (by rw[hv0,Qgx hk0];exact ae hk0);have Hvo:=Aa (fun W=>Qjg v.1 v.2 x W hlv.1 hlv.2 hx);have HV0:=Aa hv0;clear hat hab hlv hv0;generalize (Qiq (Bn v.1 v.2) x).isSome=ok at *;go_wp2_with fail;rw[<-HW3.o];refine(Hvo.o W3).mono ?_;rintro e w4 ⟨rfl,hb4⟩;have hz4:=hb4.size;have B4:=Aa (B3.o.trans (hb4.mono B3.o.size));have C4:=Aa ((hb4.cell (p:=⟨w.heap.size,0,none⟩) (show w.heap.size<W3.heap.size by omega)).trans C3.o);have T4:=Aa (Al T3.o aH hb4);have R4:=Aa (Aj R3.o aH hb4);clear hb4 R3 T3 C3 HW3;cases ok with
  |false=>
   have HN:=@Aa (Qhy vs ((k0:Int)+1) x=none) HP.o;go_wp2_with fail;refine aF (v:=.tuple #[a8,.bool false]) (by simp[results,results13,go_sem]) rfl ?_;exact⟨by rw[HN.o];rfl,B4.o⟩
  |true=>
   have HN:=@Aa (Qhy vs ((k0:Int)+1) x=goP v (vs.drop (k0+1)) x) (HP.o.trans (by rw[if_pos rfl];rfl));clear HP;generalize Qhy vs ((k0:Int)+1) x=res at *;have c4:=C4.o;have hcap0:(k0:Int)+1<=(c:Int):=aH;have hcap1:(k0:Int)+1<=(vs.length:Int):=aH;have hlc:(vs.length:Int)<=(c:Int):=aH;obtain⟨bA,oA,rfl,hbA,_,_⟩:=Qhb.at_ (Hr.o.below B4.o) hk0;obtain⟨m,hm⟩:∃m,vs.length=k0+1+m:=⟨vs.length - (k0+1),by omega⟩
   have e1:((k0:Int)+1).toNat=k0+1:=aH;have e2:vs.length - (k0+1)=m:=aH;have Hm:=Aa hm;have hn0:(0:Int)<=(k0:Int)+1:=aH;by_cases hcc:c=k0+1
   ·have hm0:m=0:=aH;have HE:=Aa (show res=some x by rw[HN.o];exact Qjk aH);subst hm0;clear hm;subst hcc;go_wp2_with fail;go_loopw [2,34] (fun q1 q2 wr=>q1=x/\q2=.int .i64 0/\wr=w4) (fun _ _ _=>0)
    case atStart=>exact⟨rfl,rfl,rfl⟩
    case round=>
     obtain⟨rfl,rfl,rfl⟩:=hrel;go_wp2_with fail;refine aF (v:=.tuple #[x,.bool true]) (by simp[results,results13,go_sem]) rfl ?_;exact⟨by rw[HE.o];rfl,B4.o⟩
   clear hm;go_wp2_with fail;go_loopw [2,34] (fun q1 q2 wr=>∃(i:Nat) (s:List UInt8),q1=s/\q2=(i:Int)/\0<=i/\k0+1+i<=vs.length/\s.length<=4000000/\Hid (res=goP (Qca vs (k0+1+i - 1)) (vs.drop (k0+1+i)) s)/\Hid (Below w w wr)/\w2.heap.size<wr.heap.size/\Hid (wr.cell? (w,0)=some (.slice (some ⟨bA,oA,none⟩) vs.length c))/\Hid (wr.there w2 0 2)/\Hid (wr.rangeAt w2 0 [.string ⟨(Qca vs (k0+1+i - 1)).1.toArray⟩,.string ⟨(Qca vs (k0+1+i - 1)).2.toArray⟩])) (fun _ q _=>vs.length - (intOf q).toNat)
   case atStart=>
    exact⟨0,x,rfl,rfl,Ap _,hk0,hx,by have:=HN.o;rw[HV0.o]at this;exact this,B4.o,by omega,C4.o,T4.o,by have:=R4.o;rw[HV0.o]at this;exact this⟩
   case round=>
    obtain⟨i,s,rfl,rfl,hik,hi,hsl,hinv,hb,hszr,hc,hT,hR⟩:=hrel;have i1:(0:Int)<=(i:Int):=aH;have hc0:=hc.o;by_cases hlt:k0+1+i<vs.length
    ·have i2:(i:Int)<(m:Int):=by have:=Hm.o;omega
     obtain⟨bb,off,eA,hbl,x0,x1⟩:=Qhb.at_ (Hr.o.below hb.o) hlt;have Hx:=@Aa (Qca vs (k0+1+i)=vs[k0+1+i]) (Qgx hlt);have hxl:=Hl.o _ (ae hlt);have hyl:(Qca vs (k0+1+i - 1)).1.length<=4000000/\(Qca vs (k0+1+i - 1)).2.length<=4000000:=Hl.o _ ge;have Hgo':=Aa (Qjo (v:=Qca vs (k0+1+i - 1)) (s:=s) hlt);rw[Hx.o]at Hgo';generalize vs[k0+1+i]=y at x0 x1 hxl Hx Hgo';generalize hz:Qca vs (k0+1+i - 1)=z at hyl hR Hgo' hinv;have Hlf:=Aa (fun W=>Qan y.1 y.2 z.1 z.2 s W hxl.1 hxl.2 hyl.1 hyl.2 hsl);have Hgood:=Aa (fun r (h:Fj (Bn y.1 y.2) (Bn z.1 z.2) s=some r)=>Qjf h);generalize Fj (Bn y.1 y.2) (Bn z.1 z.2) s=o at *;have z0:=Ab hR.o 0 rfl;have z1:=Ab hR.o 1 rfl;simp only[am]at z0 z1;injection eA with eA;injection eA with eA1 eA2;subst eA1 eA2;rw[show oA+(k0+1+i)*2=oA+(k0+1)*2+i*2 by omega]at x0 x1;have hz8:w2.heap.size<wr.heap.size:=hszr;have hz8n:¬(w2.heap.size=wr.heap.size):=aH;clear hxl hyl hz;go_wp2_with fail;refine(Hlf.o _).mono ?_;rintro e w5 ⟨rfl,hb5⟩;have hz5:=hb5.size;simp at hz5;have b5:Below wr wr w5:=((Aq _ _).alloc (Ap _) _).trans (hb5.mono aL);have B5:=Aa (hb.o.trans (b5.mono hb.o.size));have C5:=Aa ((b5.cell (p:=⟨w.heap.size,0,none⟩) (show w.heap.size<wr.heap.size by omega)).trans hc.o);have T5:=Aa (Al hT.o hszr b5);have Y5:=Aa (Aj (Bw wr [y.1,y.2] 46) aL hb5);have y0:=Ab Y5.o 0 rfl;have y1:=Ab Y5.o 1 rfl;simp only[am]at y0 y1;clear hb5 b5 x0 x1 z0 z1 hc0;cases o with
     |none=>
      have HE:=Aa (show res=none by rw[hinv.o];exact Hgo'.out);simp only[Qhf,Option.isSome_none];go_wp2_with fail;refine aF (v:=.tuple #[a8,.bool false]) (by simp[results,results13,go_sem]) rfl ?_;exact⟨by rw[HE.o];rfl,B5.o⟩
     |some r=>
      have HE:=Aa (show res=goP y (vs.drop (k0+1+i+1)) (Bc r.1)by rw[hinv.o];exact Hgo'.out);have hrl:(Bc r.1).length<=4000000:=ad (Hgood.o r rfl) aH;simp only[Qhf,Option.isSome_some];generalize Bc r.1=s2 at *;go_wp2_with ((with_reducible refine Ad (op:=⟨none,.store 46 _ _,_,_,_,none⟩) rfl 46 _ _ rfl w2 0 [y.1,y.2] ?_ ?_ ?_ ?_ ?_ ?_);rfl;rfl;(exact T5.o);kernel_rfl;(simp[Value.oneCell']);intro w9 HS9)
      go_roundw
      case rel=>
       refine⟨i+1,s2,rfl,by go_num,by omega,by omega,hrl,?_,?_,?_,?_,?_,?_⟩
       ·rw[show k0+1+(i+1) - 1=k0+1+i by omega,Hx.o];exact HE.o
       ·rw[HS9.o];exact Ag _ aH _ _ _ B5.o
       ·rw[HS9.o,B6];omega
       ·rw[HS9.o];exact Qi5 C5.o aH
       ·rw[HS9.o];exact ai T5.o _ _ _
       ·rw[HS9.o,show k0+1+(i+1) - 1=k0+1+i by omega,Hx.o];exact aa _ _ _ _ T5.o
      case measure=>simp[intOf];omega
    ·have i2:¬(i:Int)<(m:Int):=by have:=Hm.o;omega
     have HE:=Aa (show res=some s by rw[hinv.o];exact Qjk aH);go_wp2_with fail;refine aF (v:=.tuple #[s,.bool true]) (by simp[results,results13,go_sem]) rfl ?_;exact⟨by rw[HE.o];rfl,hb.o⟩
end
end Go.Proofs.YtkgkoicedddkmaaGreatDoor
