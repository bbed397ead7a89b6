/- Texts joined. Conditions: as each theorem names them. -/
import Derived.Deep.MidRow
import Derived.BigRegion
import Derived.BigQuiet
import Derived.Deep.QuietTactic
import Derived.Test.YtmmhmlmfhpfgbaaGreatDoorB06
import Derived.Test.YtmmhmlmfhpfgbaaGreatDoorB13
set_option maxRecDepth 100000
set_option maxHeartbeats 32000000
set_option linter.unusedVariables false
set_option linter.unusedSimpArgs false
namespace Go.Proofs.YtmmhmlmfhpfgbaaGreatDoor
open Go.RowKit Go.Proofs.Tryz
theorem Tryz.xtraJ:Builder.Extra prog Tryz.lays156_ren where
 sizeBuilder:=aN
 liesBuilder:=aN
 t5:=underlying5
 a5:=isAgg5
 z5:=sizeOf5
 v5:=zeroValue5
 infoByte:=aN
 cellsByte:=aN
 sizeByte:=aN
 neB5:=aL
theorem Zn(c:UInt8):∀ps:List (List UInt8),Lib.join ps [c]=Ax c ps
 |[]=>rfl
 |[p]=>by rw[Lib.join_one];rfl
 |p::q::r=>by
  have ih:=Zn c (q::r);rw[Dl c p aK,<-ih,Lib.join_cons p,Lib.join_cons q];simp[Lib.joinTail]
theorem Qh6(ps:List (List UInt8)):ps.length<=Du ps:=by
 induction ps with
 |nil=>exact Al _
 |cons p ps ih=>rw[Ev,List.length_cons];omega
theorem Qou(sep:List UInt8)(A:Option Addr)(c:Nat)(ps:List (List UInt8))(w:World)(hr:Ca w A ps.length (Bz ps))(hcp:ps.length<=c)(hl:Du ps<=2000000)(hj:(Lib.join ps sep).length<=2000000):
  Calls prog 92 #[.slice A ps.length c,sep] w fun e w'=>e=.returned (.string ⟨(Lib.join ps sep).toArray⟩)/\Below w w w':=by
 by_cases h0:ps.length=0
 ·have e0:ps=[]:=List.length_eq_zero_iff.1 h0;subst e0;exact(Any.strings_Join_none Tryz.lays156 Tryz.xtraJ A c ⟨sep.toArray⟩ w).mono fun e w' ⟨he,hw⟩=>⟨he,hw ▸ Aq _ _⟩
 have hpl:=Qh6 ps;obtain⟨hlc,_,hrow⟩:=hr;obtain⟨b,off,rfl,hb,hcl⟩:=hrow aI;have e1:(ps.map fun p=>(⟨p.toArray⟩:ByteArray)).map (·.data.toList)=ps:=by rw[List.map_map];exact List.map_id ps
 have h:=Any.strings_Join Tryz.lays156 Tryz.xtraJ b off c (ps.map fun p=>(⟨p.toArray⟩:ByteArray)) ⟨sep.toArray⟩ w (fun j x hx=>by
  rw[List.getElem?_map]at hx;obtain⟨p,hp,rfl⟩:=Option.map_eq_some_iff.1 hx;exact hcl j _ (by rw[Bz,List.getElem?_map,hp];rfl)) hb (by rw[List.length_map];omega) (by rw[List.length_map];exact hcp) (by rw[e1];show (Lib.join ps sep).length<=_;omega)
 rw[e1,List.length_map]at h;exact h
theorem Qo1(s:UInt8)(A:Option Addr)(c:Nat)(ps:List (List UInt8))(w:World)(hr:Ca w A ps.length (Bz ps))(hcp:ps.length<=c)(hl:Du ps<=2000000):
  Calls prog 92 #[.slice A ps.length c,.string ⟨#[s]⟩] w fun e w'=>e=.returned (.string ⟨(Ax s ps).toArray⟩)/\Below w w w':=by
 have:=Qou [s] A c ps w hr hcp hl (by rw[Zn,Bs];omega);rwa [Zn]at this
theorem Qpi(A:Option Addr)(c:Nat)(ps:List (List UInt8))(w:World)(hr:Ca w A ps.length (Bz ps))(hcp:ps.length<=c)(hl:Du ps<=2000000):
  Calls prog 92 #[.slice A ps.length c,.string ⟨#[44]⟩] w fun e w'=>e=.returned (.string ⟨(Ax 44 ps).toArray⟩)/\Below w w w':=Qo1 44 A c ps w hr hcp hl
section
attribute [local go_sem] Qra Qpu Qo3 Qmi ByteArray.mk_append_mk
inductive Bd:Vl->Prop
 |mk {w:UInt8} {tx:List UInt8} {tg:Nat} {ks:List Vl} (h1:tg<=1000000000) (h2:Du (ks.map Aw)<=1000000) (h3:tx.length<=1000000) (h:∀x∈ks,Bd x):Bd (.mk w tx tg ks)
theorem Jy{w:World}{base k n:Nat}{e:TypeId}{v:Value}{xs:List Value}(h:w.ownsRow base e k v n xs):∃A m c,v=.slice A m c:=by
 rcases h.2 with⟨rfl,_⟩|⟨g,cap,cur,rfl,_⟩
 ·exact⟨_,_,_,rfl⟩
 exact⟨_,_,_,rfl⟩
theorem Qnb{w:World}{base n m c:Nat}{e:TypeId}{A:Option Addr}{xs:List Value}(h:w.ownsRow base e 1 (.slice A m c) n xs):m=n/\n<=c\/n=0/\m=0:=by
 rcases h.2 with⟨e,h0⟩|⟨g,cap,cur,e,_,_,hnc,_⟩
 ·injection e with _ e1 e2;exact .inr ⟨h0,e1⟩
 injection e with _ e1 e2;subst e1 e2;exact .inl ⟨rfl,hnc⟩
theorem Qon(w:UInt8)(tx:List UInt8)(tg:Nat)(ps:List (List UInt8)):Gl w tx tg ps=if w=116 then 39::(tx++[39])
  else if w=91 then 91::(Ax 44 ps++[93])else if w=63 then(if ps.length=0 then[45]else 43::Ax 44 ps)else if w=61 then Az tg++61::Ax 44 ps else if w=82 then 123::(Ax 44 ps++[125])
  else if w=85 then 60::(Az tg++61::(Ax 44 ps++[62]))else if w=69 then 35::Az tg else tx:=by
 unfold Gl;cases ps<;>rfl
theorem Qe7(P:Nat->Prop)(v:Vl)(sl:Value)(w:World)(h:Eb P w sl v.kids)(hb:Bd v)
  (ih:∀x∈v.kids,∀s W,Eb P W s x.kids->Calls prog 44 #[Gf x s] W fun e w'=>e=.returned (.string ⟨(Aw x).toArray⟩)/\Below W W w'):
  Calls prog 44 #[Gf v sl] w fun e w'=>e=.returned (.string ⟨(Aw v).toArray⟩)/\Below w w w':=by
 have Ih:=Aa ih;obtain⟨wh,tx,tg,ks⟩:=v;obtain⟨h1,h2,h3,_⟩:=hb;have HF:=Aa (T0 wh tx tg ks);simp only[Vl.kids]at h;have Ih:=@Aa (∀x∈ks,∀s W,Eb P W s x.kids->_) ih;obtain⟨A,c,xs,rfl,rfl,hl,hr,hP,hk⟩:=h;have Hr:=Aa hr;have Hk:=Aa hk;have hxl:(Av xs).length=xs.length:=eJ;have Hd:=Aa (fun W=>M7 tg tg W (Al _) h1);clear hr hk ih hP;unfold Gf;simp only[Vl.what,Vl.text,Vl.tag];go_enter func44,ntmps44;go_wp2_with fail;obtain⟨w1,hw1⟩:∃w1,w1=w.alloc (.cells #[.int .u8 (wh.toNat:Int),tx,(tg:Int),.slice A xs.length c] 68):=⟨_,rfl⟩
 rw[<-hw1];have c0:w1.cell? (w,0)=some (.int .u8 (wh.toNat:Int)):=cH;have c1:w1.cell? (w,1)=tx:=cH;have c2:w1.cell? (w,2)=(tg:Int):=cH;have c3:w1.cell? (w,3)=some (.slice A xs.length c):=cH;have hz1:w1.heap.size=w.heap.size+1:=cH;have Hb1:=Aa (show Below w w w1 by rw[hw1];exact(Aq _ _).alloc (Al _) _);have Hr1:=Aa (Hr.o.below Hb1.o);have Hk1:=Aa (fun x hx=>(Hk.o x hx).after Hb1.o);have hB:w.heap.size<w1.heap.size:=aI;generalize hB0:w.heap.size=B at *;have HB0:=Aa hB0;clear hB0;clear hw1 Hr Hk;go_loopw [10,3] (fun i u wr=>∃(m:Nat) (A3:Option Addr) (n3 q3:Nat),i=.int .i64 m/\u=.slice A3 n3 q3/\m<=xs.length/\Hid (wr.ownsRow w1 9 1 (.slice A3 n3 q3) m (Bz ((xs.take m).map fun x=>Aw x.1)))/\Hid (Below w1 w1 wr)) (fun i _ _=>xs.length - (intOf i).toNat)
 case atStart=>exact⟨0,none,0,0,rfl,rfl,ag _,World.ownsRow_nil _ _ _ _,Aq _ _⟩
 case round=>
  obtain⟨m,A3,n3,q3,rfl,rfl,hm,Hown,Hbr⟩:=hrel;have m1:(0:Int)<=(m:Int):=aI;by_cases hlt:m<xs.length
  ·have m2:(m:Int)<(xs.length:Int):=aI;obtain⟨b,off,rfl,hb,d0,d1,d2,d3⟩:=Eb.at_ (Hr1.o.below Hbr.o) hlt;have hkx:=(Hk1.o _ (ae hlt)).after Hbr.o;have Hkx:=Aa hkx;have Hmx:=@Aa (xs[m].1∈Av xs) (aq (ae hlt));have Hts:=Aa (Cv xs m hlt);have hsz:w1.heap.size<=wr.heap.size:=Hbr.o.size;have hbn:¬(b=wr.heap.size):=aI;clear hkx;generalize xs[m]=x at *;obtain⟨y,ys⟩:=x;obtain⟨A7,c7,e7⟩:=Hkx.o.form;simp only at e7 d0 d1 d2 d3 Hkx Hmx;subst e7;have Hx:=Aa (fun W=>Ih.o y Hmx.o (.slice A7 y.kids.length c7) W);unfold Gf at Hx;go_wp2_with fail;refine(Hx.o _ (Hkx.o.after ((Aq _ _).alloc (Al _) _))).mono ?_;rintro e w3 ⟨rfl,hb3⟩;have Hb3:=Aa (((Aq _ _).alloc (Al _) _).trans (hb3.mono aK));have Ho3:=Aa (Cr Hown.o Hb3.o);have hs3:w1.heap.size<=w3.heap.size:=ad hsz Hb3.o.size;clear hb3;go_wp2_with (at_builtin;refine Kk _ rfl _ _ 57 rfl w1 9 a6 16 underlying57 Yh rfl w3 (.string ⟨(Aw y).toArray⟩) rfl rfl (.slice A3 n3 q3) m (Bz ((xs.take m).map fun x=>Aw x.1)) rfl rfl Ho3.o bc aI hs3 ?_;intro v' w5 hown5 hb5;obtain⟨A5,n5,c5,rfl⟩:=Jy hown5;have Ho:=Aa hown5;have Hb5:=Aa hb5;clear hown5 hb5)
   go_roundw
   case rel=>exact⟨m+1,A5,n5,c5,by go_num,rfl,by omega,(by rw[Hts.o,aA,Qa0];exact Ho.o),(Hbr.o.trans (Hb3.o.mono hsz)).trans Hb5.o⟩
   case measure=>simp[intOf];omega
  ·obtain rfl:m=xs.length:=aI;have hown6:=Hown.o;rw[List.take_length]at hown6;have hrow:=Ca.own hown6;obtain⟨A6,c6,e6,hr6⟩:=hrow;have hcap:=Qnb hown6;injection e6 with e7 e8 e9;subst e7 e8 e9;have Hps:=Aa (show (xs.map fun x=>Aw x.1)=(Av xs).map Aw by simp[Av]);have hpl:(xs.map fun x=>Aw x.1).length=xs.length:=aK
   have Hj:=Aa (fun W (hW:Ca W A3 xs.length (Bz (xs.map fun x=>Aw x.1)))=>(by
    have:=Qpi A3 q3 (xs.map fun x=>Aw x.1) W (by rw[hpl];exact hW) (by rw[hpl];omega) (by rw[Hps.o];omega);rw[hpl]at this;exact this:Calls prog 92 #[.slice A3 xs.length q3,.string ⟨#[44]⟩] W fun e w'=>e=.returned (.string ⟨(Ax 44 (xs.map fun x=>Aw x.1)).toArray⟩)/\Below W W w'))
   have HF:=Aa (show Aw (.mk wh tx tg (Av xs))=_ by rw[HF.o,<-Hps.o,Qon,hpl]);have hjl:(Ax 44 (xs.map fun x=>Aw x.1)).length<=1000000:=by rw[Bs,Hps.o];omega
   have hdl:(Az tg).length<=11:=C9 10 tg (by have e:10 ^ (10+1)=100000000000:=rfl;omega);generalize (xs.map fun x=>Aw x.1)=ps at *;generalize Ax 44 ps=jt at *;have Hr6:=Aa hr6;have Hb6:=Aa (Hb1.o.trans (Hbr.o.mono aI));clear hown6 hr6 hcap Hps hpl Hown Ih Hk1 Hr1;go_wp2_with fail;refine(Hj.o _ Hr6.o).mono ?_;rintro e w4 ⟨rfl,hb4⟩;have Hb4:=Aa (Hb6.o.trans (hb4.mono de));have hc4:=fun j=>(hb4.cell (p:=⟨B,j,none⟩) (show B<wr.heap.size by have:=Hbr.o.size;omega)).trans (Hbr.o.cell (p:=⟨B,j,none⟩) hB);have g0:=(hc4 0).trans c0;have g1:=(hc4 1).trans c1;have g2:=(hc4 2).trans c2;have g3:=(hc4 3).trans c3;clear hc4 hb4 Hj Hr6 Hb6 Hbr Hb1;by_cases a116:wh=116
   ·have HF:=Aa (HF.o.trans (if_pos a116));have t116:((wh.toNat:Int) == 116)=true:=Bv (d:=116) a116;clear a116;go_wp2_with fail;exact iK
   have HF:=Aa (HF.o.trans (if_neg a116));have t116:((wh.toNat:Int) == 116)=false:=At (d:=116) a116;clear a116;by_cases a91:wh=91
   ·have HF:=Aa (HF.o.trans (if_pos a91));have t91:((wh.toNat:Int) == 91)=true:=Bv (d:=91) a91;clear a91;go_wp2_with fail;exact iK
   have HF:=Aa (HF.o.trans (if_neg a91));have t91:((wh.toNat:Int) == 91)=false:=At (d:=91) a91;clear a91;by_cases a63:wh=63
   ·have HF:=Aa (HF.o.trans (if_pos a63));have t63:((wh.toNat:Int) == 63)=true:=Bv (d:=63) a63;clear a63;by_cases h0:xs.length=0
    ·have e0:((xs.length:Int) == 0)=true:=by simp[h0]
     have HF:=Aa (HF.o.trans (if_pos h0));clear h0;go_wp2_with fail;exact iL
    have e0:((xs.length:Int) == 0)=false:=cf;have HF:=Aa (HF.o.trans (if_neg h0));clear h0;go_wp2_with fail;exact iL
   have HF:=Aa (HF.o.trans (if_neg a63));have t63:((wh.toNat:Int) == 63)=false:=At (d:=63) a63;clear a63;by_cases a61:wh=61
   ·have HF:=Aa (HF.o.trans (if_pos a61));have t61:((wh.toNat:Int) == 61)=true:=Bv (d:=61) a61;clear a61;go_wp2_with fail;refine(Hd.o _).mono ?_;rintro e w5 ⟨rfl,hb5⟩;have Hb4:=Aa (Hb4.o.trans (hb5.mono dM));clear hb5;go_wp2_with fail;exact iK
   have HF:=Aa (HF.o.trans (if_neg a61));have t61:((wh.toNat:Int) == 61)=false:=At (d:=61) a61;clear a61;by_cases a82:wh=82
   ·have HF:=Aa (HF.o.trans (if_pos a82));have t82:((wh.toNat:Int) == 82)=true:=Bv (d:=82) a82;clear a82;go_wp2_with fail;exact iK
   have HF:=Aa (HF.o.trans (if_neg a82));have t82:((wh.toNat:Int) == 82)=false:=At (d:=82) a82;clear a82;by_cases a85:wh=85
   ·have HF:=Aa (HF.o.trans (if_pos a85));have t85:((wh.toNat:Int) == 85)=true:=Bv (d:=85) a85;clear a85;go_wp2_with fail;refine(Hd.o _).mono ?_;rintro e w5 ⟨rfl,hb5⟩;have Hb4:=Aa (Hb4.o.trans (hb5.mono dM));clear hb5;go_wp2_with fail;exact iK
   have HF:=Aa (HF.o.trans (if_neg a85));have t85:((wh.toNat:Int) == 85)=false:=At (d:=85) a85;clear a85;by_cases a69:wh=69
   ·have HF:=Aa (HF.o.trans (if_pos a69));have t69:((wh.toNat:Int) == 69)=true:=Bv (d:=69) a69;clear a69;go_wp2_with fail;refine(Hd.o _).mono ?_;rintro e w5 ⟨rfl,hb5⟩;have Hb4:=Aa (Hb4.o.trans (hb5.mono dM));clear hb5;go_wp2_with fail;exact iK
   have HF:=Aa (HF.o.trans (if_neg a69));have t69:((wh.toNat:Int) == 69)=false:=At (d:=69) a69;clear a69;go_wp2_with fail;exact iL
theorem Pd(P:Nat->Prop){v:Vl}(hb:Bd v):∀(sl:Value) (w:World),Eb P w sl v.kids ->
  Calls prog 44 #[Gf v sl] w fun e w'=>e=.returned (.string ⟨(Aw v).toArray⟩)/\Below w w w':=by
 induction hb with
 |mk h1 h2 h3 h ih=>exact fun sl w hk=>Qe7 P _ sl w hk (.mk h1 h2 h3 h) fun x hx s W hs=>ih x hx s W hs
section
variable {P:Program}
theorem Ba{fn:Func}{p:Tmp}{ty:TypeId}(h:fn.results=#[.cell p ty])(tmps:Array Value)(w:World)(b:Nat)(cs:List Value)(d:TypeDesc)
  (hp:tmps.getD p undef=b) (hc:w.rangeAt b 0 cs) (hu:P.underlying ty=some d) (hd:d.isRow=true) (hi:(P.info? ty).map (·.size)=some cs.length):
  (results fn tmps).run P w=.ok (.agg cs.toArray) w:=by
 have hp':tmps[p]?.getD undef=b:=eN;simp[results,h,hp',asAddr,run_loadVar_mid w b 0 ty cs d hc hu hd hi]
end
theorem Ey(b nm:ByteArray)(w:World):Calls prog 83 #[.agg #[a6,.string b,.string nm]] w fun e w'=>e=.returned (.int .u8 0)/\Below w w w':=by
 go_enter func83,ntmps83;go_wp2_with fail;exact iM
theorem Je(c:UInt8)(t:List UInt8)(hl:t.length<=1000)(b nm:ByteArray)(w:World):Calls prog 83 #[.agg #[.string ⟨(c::t).toArray⟩,.string b,.string nm]] w fun e w'=>e=.returned (.int .u8 (c.toNat:Int))/\Below w w w':=by
 go_enter func83,ntmps83;go_wp2_with fail;exact iM
theorem Qw(k:Kd)(w:World)(c:UInt8)(t:List UInt8)(hs:k.signs=c::t)(hl:t.length<=1000):
  Calls prog 86 #[Fi k] w fun e w'=>e=.returned (Fi k.part)/\Below w w w':=by
 have hp:k.part=⟨t,k.base,k.name⟩:=by unfold Kd.part;rw[hs];rfl
 rw[hp];unfold Fi;rw[hs];clear hp hs;go_enter func86,ntmps86;go_wp2_with fail;refine aG (v:=.agg ([t,k.base,k.name]:List Value).toArray) ?_ rfl ?_
 ·refine Ba results86 _ _ (w.heap.size+1) _ _ rfl ?_ underlying60 rfl aN;intro j v hv;match j,hv with
  |0,hv=>simp at hv;subst hv;simp[go_sem]
  |1,hv=>simp at hv;subst hv;simp[go_sem]
  |2,hv=>simp at hv;subst hv;simp[go_sem]
  |n+3,hv=>simp at hv
 exact⟨rfl,((Aq _ _).alloc (Al _) _).alloc aK _⟩
theorem Td{w W:World}{row:Option Nat}{B o:Nat}(h:w.grownBy W row)(hB:w.heap.size<=B):∀(cs:List Value) (o:Nat),w.grownBy (W.setCells B o cs) row:=by
 intro cs;induction cs generalizing W with
 |nil=>intro o;exact h
 |cons v cs ih=>
  intro o;refine ih (W:=W.setCell ⟨B,o,none⟩ v) ⟨h.os,h.tape,h.output,by simpa using h.size,fun k hk hne=>?_⟩ (o+1);rw[Go.heap_setCell_other _ _ _ _ (show k≠B by omega)];exact h.block k hk hne
theorem D2.trans{w w1 w2:World}{b:Nat}{p:Value}{t t':List UInt8}{x y:Bool}(h1:D2 w b p t x w1)(h2:D2 w1 b p t' y w2):D2 w b p t' y w2:=⟨h2.1,h1.2.trans h2.2⟩
theorem D2.pre{w w1 w2:World}{b:Nat}{p:Value}{t:List UInt8}{x:Bool}(hb:Below w w w1)(h:D2 w1 b p t x w2):D2 w b p t x w2:=⟨h.1,(Cd hb _).trans h.2⟩
theorem D2.post{w w1 w2:World}{b:Nat}{p:Value}{t:List UInt8}{x:Bool}(h:D2 w b p t x w1)(hb:Below w1 w1 w2):D2 w b p t x w2:=⟨h.1.grow hb,h.2.trans (Cd hb _)⟩
theorem D2.set{w W:World}{b B:Nat}{p:Value}{t:List UInt8}{x:Bool}(h:D2 w b p t x W)(hB:w.heap.size<=B)(hne:B≠b)(cs:List Value):D2 w b p t x (W.setCells B 0 cs):=by
 obtain⟨⟨h0,h1,h2,h3,h4⟩,hg⟩:=h;have hk:(W.setCells B 0 cs).heap[b]?=W.heap[b]?:=(Ei B cs 0 W).block b h0 (by simpa using hne.symm);have hc:∀o,(W.setCells B 0 cs).cell? ⟨b,o,none⟩=W.cell? ⟨b,o,none⟩:=fun o=>World.cell?_of_block (a:=⟨b,o,none⟩) hk;obtain⟨c1,t1,e1⟩:=h1;exact⟨⟨by rw[Ch];exact h0,⟨c1,t1,hk.trans e1⟩,(hc 0).trans h2,(hc 1).trans h3,(hc 2).trans h4⟩,Td (o:=0) hg hB cs 0⟩
theorem D2.env{w0 w w1:World}{b:Nat}{p:Value}{t:List UInt8}{x:Bool}(h:D2 w b p t x w1)(h0:Below w0 w0 w)(hb:w0.heap.size<=b):Below w0 w0 w1:=
 h0.grown h.2 h0.size fun k hk=>by injection hk with hk;omega
theorem Eb.set{P:Nat->Prop}{w:World}{v:Value}{ks:List Vl}(h:Eb P w v ks){B:Nat}(hB:¬P B)(cs:List Value):Eb P (w.setCells B 0 cs) v ks:=
 h.grown (Ei B cs 0 w) fun b hb e=>by injection e with e;subst e;exact hB hb
def Ma(w:World)(b:Nat)(p:Value)(t:List UInt8)(N:Nat)(r:Option (Vl × List UInt8))(e:Ending)(w':World):Prop:=
 ∃(v:Vl) (sl:Value) (t':List UInt8),e=.returned (Gf v sl)/\Eb (fun b=>w.heap.size<=b) w' sl v.kids/\D2 w b p t' r.isNone w'/\(∀x,r=some x->v=x.1/\t'=x.2)/\Bd v/\t'.length<=t.length/\(Aw v).length+t'.length<=t.length+8*N
def Eu:Vl:=.mk 0 [] 0 []
theorem Ft{w:UInt8}{tx:List UInt8}{tg:Nat}(h1:tg<=1000000000)(h3:tx.length<=1000000):Bd (.mk w tx tg []):=.mk h1 dl h3 aK
structure Md(w:World)(b:Nat)(p:Value)(t:List UInt8)(bad:Bool)(sk:Value)(dp:Nat):Prop where
 lt:b<w.heap.size
 bk:Qk w b
 c0:w.cell? ⟨b,0,none⟩=some p
 c1:w.cell? ⟨b,1,none⟩=some (.string ⟨t.toArray⟩)
 c2:w.cell? ⟨b,2,none⟩=some (.bool bad)
 c3:w.cell? ⟨b,3,none⟩=some sk
 c4:w.cell? ⟨b,4,none⟩=some (.int .i64 (dp:Int))
section
variable {w w':World} {b:Nat} {p sk:Value} {t:List UInt8} {bad:Bool} {dp:Nat}
theorem Md.block(h:Md w b p t bad sk dp)(hz:w.heap.size<=w'.heap.size)(e:w'.heap[b]?=w.heap[b]?):Md w' b p t bad sk dp:=by
 obtain⟨h0,⟨c,T,h1⟩,h2,h3,h4,h5,h6⟩:=h
 have hc:∀o,w'.cell? ⟨b,o,none⟩=w.cell? ⟨b,o,none⟩:=fun o=>World.cell?_of_block (a:=⟨b,o,none⟩) e
 exact⟨Nat.lt_of_lt_of_le h0 hz,⟨c,T,e.trans h1⟩,(hc 0).trans h2,(hc 1).trans h3,(hc 2).trans h4,(hc 3).trans h5,(hc 4).trans h6⟩
theorem Md.grow(h:Md w b p t bad sk dp)(hb:Below w.heap.size w w'):Md w' b p t bad sk dp:=h.block hb.size (hb.block b h.lt)
theorem Md.setBad(h:Md w b p t bad sk dp)(x:Bool):Md (w.setCell ⟨b,2,none⟩ (.bool x)) b p t x sk dp:=by
 obtain⟨h0,h1,h2,h3,h4,h5,h6⟩:=h
 have hf:=h1.live 2
 exact⟨by simpa using h0,h1.set _,by simp[go_sem,h2],by simp[go_sem,h3],by simp[go_sem,h4,hf],by simp[go_sem,h5],by simp[go_sem,h6]⟩
theorem Md.setText(h:Md w b p t bad sk dp)(x:List UInt8):Md (w.setCell ⟨b,1,none⟩ (.string ⟨x.toArray⟩)) b p x bad sk dp:=by
 obtain⟨h0,h1,h2,h3,h4,h5,h6⟩:=h
 have hf:=h1.live 1
 exact⟨by simpa using h0,h1.set _,by simp[go_sem,h2],by simp[go_sem,h3,hf],by simp[go_sem,h4],by simp[go_sem,h5],by simp[go_sem,h6]⟩
theorem Md.setSk(h:Md w b p t bad sk dp)(x:Value):Md (w.setCell ⟨b,3,none⟩ x) b p t bad x dp:=by
 obtain⟨h0,h1,h2,h3,h4,h5,h6⟩:=h
 have hf:=h1.live 3
 exact⟨by simpa using h0,h1.set _,by simp[go_sem,h2],by simp[go_sem,h3],by simp[go_sem,h4],by simp[go_sem,h5,hf],by simp[go_sem,h6]⟩
theorem Md.setDp(h:Md w b p t bad sk dp)(x:Nat):Md (w.setCell ⟨b,4,none⟩ (.int .i64 (x:Int))) b p t bad sk x:=by
 obtain⟨h0,h1,h2,h3,h4,h5,h6⟩:=h
 have hf:=h1.live 4
 exact⟨by simpa using h0,h1.set _,by simp[go_sem,h2],by simp[go_sem,h3],by simp[go_sem,h4],by simp[go_sem,h5],by simp[go_sem,h6,hf]⟩
end
def Q5(w:World)(b:Nat)(p:Value)(t:List UInt8)(bad:Bool)(sk:Value)(dp:Nat)(w':World):Prop:=Md w' b p t bad sk dp/\w.grownBy w' (some b)
section
variable {w w0 w1 w2:World} {b:Nat} {p sk sk':Value} {t t':List UInt8} {x y:Bool} {dp dp':Nat}
theorem Q5.trans(h1:Q5 w b p t x sk dp w1)(h2:Q5 w1 b p t' y sk' dp' w2):Q5 w b p t' y sk' dp' w2:=⟨h2.1,h1.2.trans h2.2⟩
theorem Q5.pre(hb:Below w.heap.size w w1)(h:Q5 w1 b p t x sk dp w2):Q5 w b p t x sk dp w2:=⟨h.1,(Cd hb _).trans h.2⟩
theorem Q5.post(h:Q5 w b p t x sk dp w1)(hb:Below w1.heap.size w1 w2):Q5 w b p t x sk dp w2:=⟨h.1.grow hb,h.2.trans (Cd hb _)⟩
theorem Q5.set(h:Q5 w b p t x sk dp w1){B:Nat}(hB:w.heap.size<=B)(hne:B≠b)(cs:List Value):Q5 w b p t x sk dp (w1.setCells B 0 cs):=by
 refine⟨h.1.block (by rw[Ch];exact Al _) ?_,Td (o:=0) h.2 hB cs 0⟩
 exact(Ei B cs 0 w1).block b h.1.lt (by simpa using hne.symm)
theorem Q5.env(h:Q5 w b p t x sk dp w1)(h0:Below w0.heap.size w0 w)(hb:w0.heap.size<=b):Below w0.heap.size w0 w1:=
 h0.grown h.2 h0.size fun k hk=>by injection hk with hk;omega
end
def Gn(t:List UInt8):Nat:=match Ag t with|some (n,_)=>n|none=>0
def Ds(t:List UInt8):List UInt8:=match Ag t with|some (_,r)=>r|none=>[]
theorem Qf(t:List UInt8):Gn t<=999999:=by
 unfold Gn
 cases h:Ag t with
 |none=>simp
 |some q=>obtain⟨n,r⟩:=q;exact(Cq h).1
theorem Nz(t:List UInt8):(Ds t).length<=t.length:=by
 unfold Ds
 cases h:Ag t with
 |none=>simp
 |some q=>obtain⟨n,r⟩:=q;have:=(Cq h).2;simp only;omega
theorem Mv(t:List UInt8):Ag t=if (Ag t).isNone then none else some (Gn t,Ds t):=by
 unfold Gn Ds
 cases Ag t<;>rfl
theorem Jf(b:Nat)(p:Value)(t:List UInt8)(bad:Bool)(sk:Value)(dp:Nat)(w:World)(h:Md w b p t bad sk dp)(hl:t.length<=4000000):
  Calls prog 180 #[.pointer (some ⟨b,0,none⟩)] w fun e w'=>e=.returned (.int .i64 (Gn t:Int))/\Q5 w b p (Ds t) (bad || (Ag t).isNone) sk dp w':=by
 have Hn:=Aa (fun W=>Qfq t W (by omega))
 have HS:=Aa h
 have c1:=h.c1
 have hlt:=h.lt
 have f1:=h.bk.live 1
 have f2:=h.bk.live 2
 have c2:=h.c2
 unfold Gn Ds
 clear h
 generalize Ag t=o at *
 go_enter func180,ntmps180
 go_wp2_with fail
 refine(Hn.o _).mono ?_
 rintro e w1 ⟨rfl,k,rfl⟩
 have HB:=Aa (below_drewN (Aq w.heap.size w) k)
 cases o with
 |none=>
  unfold ngV
  go_wp2_with fail
  go_ret
  exact⟨rfl,(((HS.o.grow HB.o).setBad true).setText []),((Cd HB.o _).trans (Ai _ _ _ _)).trans (Ai _ _ _ _)⟩
 |some q=>
  obtain⟨n,r⟩:=q
  unfold ngV
  go_wp2_with fail
  go_ret
  exact⟨rfl,((HS.o.grow HB.o).setText r),(Cd HB.o _).trans (Ai _ _ _ _)⟩
def Y8(t:List UInt8)(n:Nat)(bad:Bool):Bool:=bad || decide (t.length<n)
def tkS(t:List UInt8)(n:Nat)(bad:Bool):List UInt8:=if Y8 t n bad=true then[]else t.take n
def tkR(t:List UInt8)(n:Nat)(bad:Bool):List UInt8:=if Y8 t n bad=true then t else t.drop n
theorem Pe(b:Nat)(p:Value)(t:List UInt8)(bad:Bool)(sk:Value)(dp n:Nat)(w:World)(h:Md w b p t bad sk dp)(hl:t.length<=4000000)(hn:n<=999999):
  Calls prog 182 #[.pointer (some ⟨b,0,none⟩),.int .i64 (n:Int)] w fun e w'=>e=.returned (.string ⟨(tkS t n bad).toArray⟩)/\Q5 w b p (tkR t n bad) (Y8 t n bad) sk dp w':=by
 have HS:=Aa h
 have c1:=h.c1
 have f1:=h.bk.live 1
 have f2:=h.bk.live 2
 have c2:=h.c2
 clear h
 by_cases hk:Y8 t n bad=true
 ·have E1:=Aa (show tkS t n bad=[]from if_pos hk)
  have E2:=Aa (show tkR t n bad=t from if_pos hk)
  have E3:=Aa hk
  cases bad with
  |true=>
   clear hk
   go_enter func182,ntmps182
   go_wp2_with fail
   go_ret
   exact⟨by rw[E1.o];rfl,by rw[E2.o,E3.o];exact HS.o.setBad true,Ai _ _ _ _⟩
  |false=>
   have h2:(t.length:Int)<(n:Int):=by simp[Y8]at hk;omega
   clear hk
   go_enter func182,ntmps182
   go_wp2_with fail
   go_ret
   exact⟨by rw[E1.o];rfl,by rw[E2.o,E3.o];exact HS.o.setBad true,Ai _ _ _ _⟩
 have E1:=Aa (show tkS t n bad=t.take n from if_neg hk)
 have E2:=Aa (show tkR t n bad=t.drop n from if_neg hk)
 have E3:=Aa (show Y8 t n bad=bad by unfold Y8 at hk ⊢;cases bad<;>simp_all)
 cases bad with
 |true=>exact absurd rfl hk
 |false=>
  have h2:n<=t.length:=by simp[Y8]at hk;omega
  have h3:¬((t.length:Int)<(n:Int)):=by omega
  have h4:(n:Int)<=(t.length:Int):=by omega
  clear hk
  go_enter func182,ntmps182
  go_wp2_with fail
  go_ret
  exact⟨by rw[E1.o];rfl,by rw[E2.o,E3.o];exact HS.o.setText _,Ai _ _ _ _⟩
def flR:List UInt8->List UInt8
 |[]=>[]
 |_::r=>r
def flX:List UInt8->Bool
 |[]=>false
 |c::_=>decide (c=1)
def flB:List UInt8->Bool
 |[]=>true
 |c::_=>decide (1<c.toNat)
theorem Qaf(b:Nat)(p:Value)(t:List UInt8)(sk:Value)(dp:Nat)(w:World)(h:Md w b p t false sk dp)(hl:t.length<=4000000):
  Calls prog 181 #[.pointer (some ⟨b,0,none⟩)] w fun e w'=>e=.returned (.bool (flX t))/\Q5 w b p (flR t) (flB t) sk dp w':=by
 have HT:=Aa (Pe b p t false sk dp 1 w h hl (by decide))
 clear h
 cases t with
 |nil=>
  go_enter func181,ntmps181
  go_wp2_with fail
  refine HT.o.mono ?_
  rintro e w1 ⟨rfl,hs⟩
  have HS:=Aa hs
  clear hs
  rw[show tkS [] 1 false=[]from rfl]
  go_wp2_with fail
  go_ret
  exact⟨rfl,HS.o⟩
 |cons c r=>
  have HE:=Aa (show tkS (c::r) 1 false=[c]from by simp[tkS,Y8])
  have HR:=Aa (show tkR (c::r) 1 false=r/\Y8 (c::r) 1 false=false from by simp[tkR,Y8])
  go_enter func181,ntmps181
  go_wp2_with fail
  refine HT.o.mono ?_
  rintro e w1 ⟨rfl,hs⟩
  rw[HR.o.1,HR.o.2]at hs
  have HS:=Aa hs
  have f2:=hs.1.bk.live 2
  have c2:=hs.1.c2
  clear hs
  rw[HE.o]
  by_cases h1:1<c.toNat
  ·have hc1:c≠1:=fun e=>by rw[e]at h1;exact absurd h1 (by decide)
   have t1:Op.bytesLess [c] [1]=false:=by simp[Op.bytesLess,UInt8.lt_iff_toNat_lt];omega
   have t2:(c == 1)=false:=by simpa using hc1
   have E1:=Aa (show flX (c::r)=false from decide_eq_false hc1)
   have E2:=Aa (show flB (c::r)=true from decide_eq_true h1)
   clear h1 hc1
   go_wp2_with fail
   go_ret
   exact⟨by rw[E1.o];rfl,by rw[E2.o];exact HS.o.1.setBad true,HS.o.2.trans (Ai _ _ _ _)⟩
  have E2:=Aa (show flB (c::r)=false from decide_eq_false h1)
  have h2:c=0\/c=1:=by
   rcases Nat.eq_zero_or_pos c.toNat with h|h
   ·exact .inl (UInt8.toNat_inj.1 (by simpa using h))
   exact .inr (UInt8.toNat_inj.1 (by simp;omega))
  have t1:Op.bytesLess [0] [1]=true:=by decide
  have t2:Op.bytesLess [1] [1]=false:=by decide
  clear h1
  rcases h2 with rfl|rfl<;>
  ·go_wp2_with fail
   go_ret
   exact⟨rfl,by rw[E2.o];exact HS.o⟩
theorem Qag.range{w:World}{A:Option Addr}{fs:List Fd}(hr:Ca w A (fs.length*6) (fs.flatMap Tq)){i:Nat}(hi:i<fs.length):∃b off,A=some ⟨b,off,none⟩/\b<w.heap.size/\w.rangeAt b (off+i*6) (Tq fs[i]):=by
 obtain⟨b,off,e,hlt,hc⟩:=hr.elem Qhy (by decide) hi
 exact⟨b,off,e,hlt,fun j v hv=>by rw[Nat.add_assoc];exact hc j v hv⟩
theorem Mq(c:UInt8)(s:List UInt8):(Dj c s).1.length<=s.length/\(Dj c s).2.1.length<=s.length:=by
 rcases Fy c s with⟨_,h⟩|⟨p,t,rfl,_,h⟩
 ·rw[h];simp
 rw[h];simp;omega
def Ni(st:UInt8)(ps:List (List UInt8))(vl:List UInt8)(td:Bool):Option Fd:=
 if st=69 then
  match Ks ps with
  |some (n,b)=>if td=true then none else some ⟨n,b,Kd.nil,vl⟩
  |none=>none
 else
  match Ms ps with
  |some (n,b,c)=>(match C5 c with
   |some k=>if td=true/\¬(st=82/\k.signs=[]/\Ce k.base vl=true)then none else some ⟨n,b,k,vl⟩
   |none=>none)
  |none=>none
theorem Qbt(st:UInt8)(s:List UInt8):Ja st s=Ni st (Aj 58 (Dj 61 s).1) (Dj 61 s).2.1 (Dj 61 s).2.2:=rfl
theorem Y7{st:UInt8}{ps:List (List UInt8)}{vl:List UInt8}{td:Bool}(h:ps.length≠if st=69 then 2 else 3):Ni st ps vl td=none:=by
 unfold Ni;by_cases e:st=69
 ·rw[if_pos e]at h ⊢;match ps,h with
  |[],_=>rfl
  |[_],_=>rfl
  |[_,_],h=>exact absurd rfl h
  |_::_::_::_,_=>rfl
 rw[if_neg e]at h ⊢;match ps,h with
 |[],_=>rfl
 |[_],_=>rfl
 |[_,_],_=>rfl
 |[_,_,_],h=>exact absurd rfl h
 |_::_::_::_::_,_=>rfl
def N8(a b:List UInt8)(n:Nat):Prop:=Cx a=some n/\1<=n/\n<=200/\Bf b=true
theorem Xp{st:UInt8}{a b:List UInt8}{r:List (List UInt8)}{vl:List UInt8}{td:Bool}(h:∀n,¬N8 a b n):Ni st (a::b::r) vl td=none:=by
 have h2:∀c,Ks (a::b::c)=none:=by
  intro c;match c with
  |[]=>
   cases hd:Cx a with
   |none=>simp only[Ks,hd]
   |some n=>simp only[Ks,hd];exact if_neg fun(e:1<=n/\n<=200/\Bf b=true)=>h n ⟨hd,e.1,e.2.1,e.2.2⟩
  |_::_=>rfl
 have h3:∀c,Ms (a::b::c)=none:=by
  intro c;match c with
  |[]=>rfl
  |[x]=>
   cases hd:Cx a with
   |none=>simp only[Ms,hd]
   |some n=>simp only[Ms,hd];exact if_neg fun(e:1<=n/\n<=200/\Bf b=true)=>h n ⟨hd,e.1,e.2.1,e.2.2⟩
  |_::_::_=>rfl
 unfold Ni;rw[h2,h3];split<;>rfl
theorem Qj2{a b:List UInt8}{vl:List UInt8}{td:Bool}{n:Nat}(h:N8 a b n):Ni 69 [a,b] vl td=if td=true then none else some ⟨n,b,Kd.nil,vl⟩:=by
 obtain⟨h1,h2,h3,h4⟩:=h;unfold Ni Ks;simp[h1,h2,h3,h4]
theorem Qmc{st:UInt8}{a b c:List UInt8}{vl:List UInt8}{td:Bool}{n:Nat}(hst:st≠69)(h:N8 a b n):Ni st [a,b,c] vl td=(match C5 c with
   |some k=>if td=true/\¬(st=82/\k.signs=[]/\Ce k.base vl=true)then none else some ⟨n,b,k,vl⟩
   |none=>none):=by
 obtain⟨h1,h2,h3,h4⟩:=h;unfold Ni Ms;simp[h1,h2,h3,h4,hst]
theorem Qg7{k:Kd}(h:Qcd k):Qol k.base:=by
 rcases h with⟨h,_⟩|⟨h|h|h,_⟩
 ·exact .inr (.inr (.inr h))
 ·exact .inl h
 ·exact .inr (.inl h)
 exact .inr (.inr (.inl h))
theorem Qos{ps:List (List UInt8)}(h:ps.length=2):∃a b,ps=[a,b]:=by
 match ps,h with
 |[a,b],_=>exact⟨a,b,rfl⟩
theorem Qpf{ps:List (List UInt8)}(h:ps.length=3):∃a b c,ps=[a,b,c]:=by
 match ps,h with
 |[a,b,c],_=>exact⟨a,b,c,rfl⟩
theorem Xi{w:World}{b o n:Nat}(h:w.there b o n)(k:Nat):(w.drewN k).there b o n:=by
 induction k generalizing w with
 |zero=>exact h
 |succ k ih=>exact ih aU
theorem Qk8(st:UInt8)(hst:st=69)(s:List UInt8)(w:World)(hs:s.length<=4000000):
  Calls prog 175 #[s,.int .u8 (st.toNat:Int)] w (Em (Ja st s) w):=by
 have HF:=Aa (Qbt st s);have Hcut:=Aa (fun W=>Sz s 61 W aI);have hcl:=(Mq 61 s).1;have hvl:=(Mq 61 s).2;generalize Dj 61 s=r at HF Hcut hcl hvl;obtain⟨hd,vl,td⟩:=r;simp only at hcl hvl HF;have Hsp:=Aa (fun W=>Vh hd 58 W aI);have hne:=Ex 58 hd;have Hpl:=Aa (Ao 58 hd);generalize Aj 58 hd=ps at HF Hsp hne Hpl;have e69:((st.toNat:Int) == 69)=true:=Bv hst;have n69:((st.toNat:Int) != 69)=false:=My hst;have Hst0:=Aa hst;clear hst;go_enter func175,ntmps175;go_wp2_with fail;refine(Hcut.o _).mono ?_;rintro e w1 ⟨rfl,k1,rfl⟩;unfold Qfb;go_wp2_with fail;refine(Hsp.o _).mono ?_;rintro e w2 ⟨v,rfl,ho,hb⟩;obtain⟨g,c,rfl,hg1,hg2,hcells⟩:=Nv ho hne;have hzz:w.heap.size<w2.heap.size:=by have:=hb.size;simp at this;omega
 have HT:=@Aa (w2.there w 0 6) (An (Xi (Cu w [.int .i64 0,a6,a6,a6,a6,a6] 97) k1) aK hb);have Hb:=@Aa (Below w w w2) ((below_drewN ((Aq w.heap.size w).alloc (Al _) _) k1).trans (hb.mono aK));have Hcells:=Aa hcells;clear hb ho hcells hne;by_cases hlen:ps.length=2
 ·obtain⟨a,b,rfl⟩:=Qos hlen;have c0:=Hcells.o 0 aK;have c1:=Hcells.o 1 aK;simp at c0 c1;have la:a.length<=4000000:=by have:=Hpl.o a aK;omega
  have lb:b.length<=4000000:=by have:=Hpl.o b aK;omega
  clear Hpl Hcells hlen;have hpn:=fun W=>(show Calls prog 186 #[a,.int .i64 200] W fun e w'=>e=.returned (pnV a 200)/\W=w' from Gc a 200 W aI aL)
  have Hhead:=@Aa (∀n,N8 a b n↔Cx a=some n/\1<=n/\n<=200/\Bf b=true) (fun n=>Iff.rfl);have Hno:=Aa (fun(h:∀n,¬N8 a b n)=>HF.o.trans (Xp h));generalize hda:Cx a=od at *;have Hda:=Aa hda;clear hda;cases od with
  |none=>
   have Hpn:=Aa (fun W=>(Rp (m:=200) Hda.o) ▸ hpn W);clear hpn;go_wp2_with fail;refine(Hpn.o _).mono ?_;rintro e w3 ⟨rfl,rfl⟩;go_wp2_with ((with_reducible refine Ac (op:=⟨none,.store 97 _ _,_,_,_,none⟩) rfl 97 _ _ rfl w 0 [.int .i64 0,a6,a6,a6,a6,a6] ?_ ?_ ?_ ?_ ?_ ?_);rfl;rfl;(first|exact au HT.o _|exact HT.o);kernel_rfl;(simp[Value.oneCell']);intro w9 HS9)
   have HZ:=@Aa (w9.rangeAt w 0 [.int .i64 0,a6,a6,a6,a6,a6]) bj;refine aG (v:=.tuple #[.agg ([.int .i64 0,a6,a6,a6,a6,a6]:List Value).toArray,.bool false]) ?_ rfl ?_
   ·exact fX
   exact j0
  |some n=>
   have Hpn:=Aa (fun W=>(Tk (m:=200) Hda.o) ▸ hpn W);clear hpn;have hn9:n<=999999:=(Bw.1 Hda.o).1;rcases aH 200 n with h200|h200
   ·exact g8
   have Hdec:=Aa (show decide (n<=200)=true by simp;omega);rw[Hdec.o]at Hpn;rcases Nat.eq_zero_or_pos n with h0|h0
   ·exact ga
   have hlt1:decide ((n:Int)<1)=false:=dN;have Hname:=Aa (fun W=>Mr b W aI);generalize hnb:Bf b=nb at *;have Hnb:=Aa hnb;clear hnb;go_wp2_with fail;refine(Hpn.o _).mono ?_;rintro e w3 ⟨rfl,rfl⟩;go_wp2_with fail;refine(Hname.o _).mono ?_;rintro e w4 ⟨rfl,hb4⟩;have hz4:w2.heap.size<w4.heap.size:=fq;have HT4:=@Aa (w4.there w 0 6) (An (au HT.o _) aO hb4);have HR4:=@Aa (w4.rangeAt w2 0 [(n:Int),b,a6,a6,a6,vl]) (Ar (Br w2 _ _) aK hb4);have HK4:=@Aa (w4.there w2 0 6) (An (Cu w2 [(n:Int),b,a6,a6,a6,vl] _) aK hb4);have Hb4:=@Aa (Below w w w4) ((Hb.o.alloc Hb.o.size _).trans (hb4.mono aO));clear hb4;cases nb with
   |false=>
    go_wp2_with ((with_reducible refine Ac (op:=⟨none,.store 97 _ _,_,_,_,none⟩) rfl 97 _ _ rfl w 0 [.int .i64 0,a6,a6,a6,a6,a6] ?_ ?_ ?_ ?_ ?_ ?_);rfl;rfl;(first|exact au HT4.o _|exact HT4.o);kernel_rfl;(simp[Value.oneCell']);intro w9 HS9)
    have HZ:=@Aa (w9.rangeAt w 0 [.int .i64 0,a6,a6,a6,a6,a6]) bW;refine aG (v:=.tuple #[.agg ([.int .i64 0,a6,a6,a6,a6,a6]:List Value).toArray,.bool false]) ?_ rfl ?_
    ·exact fX
    exact j4
   |true=>
    have Hok:=@Aa (N8 a b n) ((Hhead.o n).2 ⟨rfl,h0,h200,rfl⟩);have HF2:=Aa (HF.o.trans (show Ni st [a,b] vl td=if td=true then none else some ⟨n,b,Kd.nil,vl⟩from by rw[Hst0.o];exact Qj2 Hok.o));clear Hno Hhead HF;have n82:((st.toNat:Int) != 82)=true:=Qm (c:=st) (d:=82) (by rw[Hst0.o];decide);cases td with
    |true=>
     go_wp2_with ((with_reducible refine Ac (op:=⟨none,.store 97 _ _,_,_,_,none⟩) rfl 97 _ _ rfl w 0 [.int .i64 0,a6,a6,a6,a6,a6] ?_ ?_ ?_ ?_ ?_ ?_);rfl;rfl;(first|exact au HT4.o _|exact HT4.o);kernel_rfl;(simp[Value.oneCell']);intro w9 HS9)
     have HZ:=@Aa (w9.rangeAt w 0 [.int .i64 0,a6,a6,a6,a6,a6]) bW;refine aG (v:=.tuple #[.agg ([.int .i64 0,a6,a6,a6,a6,a6]:List Value).toArray,.bool false]) ?_ rfl ?_
     ·exact fX
     exact Em.no (HF2.o.trans aK) rfl bw
    |false=>
     go_wp2_with (first|((with_reducible refine Ac (op:=⟨none,.store 97 _ _,_,_,_,none⟩) rfl 97 _ _ rfl w 0 [(n:Int),b,a6,a6,a6,vl] ?_ ?_ ?_ ?_ ?_ ?_);rfl;rfl;(first|exact au HT4.o _|exact HT4.o);kernel_rfl;(simp[Value.oneCell']);intro w9 HS9)|((with_reducible refine wpList_load_mid (op:=⟨_,.load 97 _,_,_,_,none⟩) rfl 97 _ rfl w2 0 ?_ [(n:Int),b,a6,a6,a6,vl] _ HR4.o underlying97 ?_ ?_ ?_);rfl;rfl;kernel_rfl))
     have HZ:=@Aa (w9.rangeAt w 0 [(n:Int),b,a6,a6,a6,vl]) bW;refine aG (v:=.tuple #[.agg ([(n:Int),b,a6,a6,a6,vl]:List Value).toArray,.bool true]) ?_ rfl ?_
     ·exact Au results175 _ _ w.heap.size [(n:Int),b,a6,a6,a6,vl] _ _ rfl rfl HZ.o underlying97 rfl aN
     exact Em.yes (HF2.o.trans (if_neg (fun h=>by cases h))) rfl bw
 have Hno:=Aa (HF.o.trans (Y7 (vl:=vl) (td:=td) (st:=st) (ps:=ps) (by rw[if_pos Hst0.o];exact hlen)));have hl1:¬(ps.length:Int)=2:=aI;have hl2:((ps.length:Int) != 2)=true:=by rw[bne_iff_ne];exact hl1
 clear HF Hpl Hcells;go_wp2_with ((with_reducible refine Ac (op:=⟨none,.store 97 _ _,_,_,_,none⟩) rfl 97 _ _ rfl w 0 [.int .i64 0,a6,a6,a6,a6,a6] ?_ ?_ ?_ ?_ ?_ ?_);rfl;rfl;(first|exact au HT.o _|exact HT.o);kernel_rfl;(simp[Value.oneCell']);intro w9 HS9)
 have HZ:=@Aa (w9.rangeAt w 0 [.int .i64 0,a6,a6,a6,a6,a6]) bj;refine aG (v:=.tuple #[.agg ([.int .i64 0,a6,a6,a6,a6,a6]:List Value).toArray,.bool false]) ?_ rfl ?_
 ·exact fX
 exact Em.no Hno.o rfl aX
theorem Qkh(st:UInt8)(hst:st≠69)(s:List UInt8)(w:World)(hs:s.length<=4000000):
  Calls prog 175 #[s,.int .u8 (st.toNat:Int)] w (Em (Ja st s) w):=by
 have HF:=Aa (Qbt st s);have Hcut:=Aa (fun W=>Sz s 61 W aI);have hcl:=(Mq 61 s).1;have hvl:=(Mq 61 s).2;generalize Dj 61 s=r at HF Hcut hcl hvl;obtain⟨hd,vl,td⟩:=r;simp only at hcl hvl HF;have Hsp:=Aa (fun W=>Vh hd 58 W aI);have hne:=Ex 58 hd;have Hpl:=Aa (Ao 58 hd);generalize Aj 58 hd=ps at HF Hsp hne Hpl;have e69:((st.toNat:Int) == 69)=false:=At hst;have n69:((st.toNat:Int) != 69)=true:=Qm hst;have Hst0:=Aa hst;clear hst;go_enter func175,ntmps175;go_wp2_with fail;refine(Hcut.o _).mono ?_;rintro e w1 ⟨rfl,k1,rfl⟩;unfold Qfb;go_wp2_with fail;refine(Hsp.o _).mono ?_;rintro e w2 ⟨v,rfl,ho,hb⟩;obtain⟨g,c,rfl,hg1,hg2,hcells⟩:=Nv ho hne;have hzz:w.heap.size<w2.heap.size:=by have:=hb.size;simp at this;omega
 have HT:=@Aa (w2.there w 0 6) (An (Xi (Cu w [.int .i64 0,a6,a6,a6,a6,a6] 97) k1) aK hb);have Hb:=@Aa (Below w w w2) ((below_drewN ((Aq w.heap.size w).alloc (Al _) _) k1).trans (hb.mono aK));have Hcells:=Aa hcells;clear hb ho hcells hne;by_cases hlen:ps.length=3
 ·obtain⟨a,b,d,rfl⟩:=Qpf hlen;have c0:=Hcells.o 0 aK;have c1:=Hcells.o 1 aK;have c2:=Hcells.o 2 aK;simp at c0 c1 c2;have la:a.length<=4000000:=by have:=Hpl.o a aK;omega
  have lb:b.length<=4000000:=by have:=Hpl.o b aK;omega
  have ld:d.length<=4000000:=by have:=Hpl.o d aK;omega
  clear Hpl Hcells hlen;have hpn:=fun W=>(show Calls prog 186 #[a,.int .i64 200] W fun e w'=>e=.returned (pnV a 200)/\W=w' from Gc a 200 W aI aL)
  have Hhead:=@Aa (∀n,N8 a b n↔Cx a=some n/\1<=n/\n<=200/\Bf b=true) (fun n=>Iff.rfl);have Hno:=Aa (fun(h:∀n,¬N8 a b n)=>HF.o.trans (Xp h));generalize hda:Cx a=od at *;have Hda:=Aa hda;clear hda;cases od with
  |none=>
   have Hpn:=Aa (fun W=>(Rp (m:=200) Hda.o) ▸ hpn W);clear hpn;go_wp2_with fail;refine(Hpn.o _).mono ?_;rintro e w3 ⟨rfl,rfl⟩;go_wp2_with ((with_reducible refine Ac (op:=⟨none,.store 97 _ _,_,_,_,none⟩) rfl 97 _ _ rfl w 0 [.int .i64 0,a6,a6,a6,a6,a6] ?_ ?_ ?_ ?_ ?_ ?_);rfl;rfl;(first|exact au HT.o _|exact HT.o);kernel_rfl;(simp[Value.oneCell']);intro w9 HS9)
   have HZ:=@Aa (w9.rangeAt w 0 [.int .i64 0,a6,a6,a6,a6,a6]) bj;refine aG (v:=.tuple #[.agg ([.int .i64 0,a6,a6,a6,a6,a6]:List Value).toArray,.bool false]) ?_ rfl ?_
   ·exact fX
   exact j0
  |some n=>
   have Hpn:=Aa (fun W=>(Tk (m:=200) Hda.o) ▸ hpn W);clear hpn;have hn9:n<=999999:=(Bw.1 Hda.o).1;rcases aH 200 n with h200|h200
   ·exact g8
   have Hdec:=Aa (show decide (n<=200)=true by simp;omega);rw[Hdec.o]at Hpn;rcases Nat.eq_zero_or_pos n with h0|h0
   ·exact ga
   have hlt1:decide ((n:Int)<1)=false:=dN;have Hname:=Aa (fun W=>Mr b W aI);generalize hnb:Bf b=nb at *;have Hnb:=Aa hnb;clear hnb;go_wp2_with fail;refine(Hpn.o _).mono ?_;rintro e w3 ⟨rfl,rfl⟩;go_wp2_with fail;refine(Hname.o _).mono ?_;rintro e w4 ⟨rfl,hb4⟩;have hz4:w2.heap.size<w4.heap.size:=fq;have HT4:=@Aa (w4.there w 0 6) (An (au HT.o _) aO hb4);have HR4:=@Aa (w4.rangeAt w2 0 [(n:Int),b,a6,a6,a6,vl]) (Ar (Br w2 _ _) aK hb4);have HK4:=@Aa (w4.there w2 0 6) (An (Cu w2 [(n:Int),b,a6,a6,a6,vl] _) aK hb4);have Hb4:=@Aa (Below w w w4) ((Hb.o.alloc Hb.o.size _).trans (hb4.mono aO));have c2x:w4.cell? (g,2)=d:=(hb4.cell (p:=⟨g,2,none⟩) aO).trans (by rw[World.cell?_alloc_old _ _ _ aO];exact c2);clear hb4;cases nb with
   |false=>
    go_wp2_with ((with_reducible refine Ac (op:=⟨none,.store 97 _ _,_,_,_,none⟩) rfl 97 _ _ rfl w 0 [.int .i64 0,a6,a6,a6,a6,a6] ?_ ?_ ?_ ?_ ?_ ?_);rfl;rfl;(first|exact au HT4.o _|exact HT4.o);kernel_rfl;(simp[Value.oneCell']);intro w9 HS9)
    have HZ:=@Aa (w9.rangeAt w 0 [.int .i64 0,a6,a6,a6,a6,a6]) bW;refine aG (v:=.tuple #[.agg ([.int .i64 0,a6,a6,a6,a6,a6]:List Value).toArray,.bool false]) ?_ rfl ?_
    ·exact fX
    exact j4
   |true=>
    have Hok:=@Aa (N8 a b n) ((Hhead.o n).2 ⟨rfl,h0,h200,rfl⟩);have HF2:=Aa (HF.o.trans (Qmc (c:=d) (vl:=vl) (td:=td) Hst0.o Hok.o));clear Hno Hhead HF;have Hkd:=Aa (fun W=>Th d W ld);have Hkok:=Aa (fun k (h:C5 d=some k)=>(Fm.1 h).1);generalize C5 d=ok at HF2 Hkd Hkok;go_wp2_with fail;refine(Hkd.o _).mono ?_;rintro e w5 ⟨hcase,hb5⟩;have HT5:=@Aa (w5.there w 0 6) (An HT4.o aI hb5);have HR5:=@Aa (w5.rangeAt w2 0 _) (Ar HR4.o hz4 hb5);have HK5:=@Aa (w5.there w2 0 6) (An HK4.o hz4 hb5);have Hb5:=Aa (Hb4.o.trans (hb5.mono Hb4.o.size));have hz5:w2.heap.size<w5.heap.size:=ac hz4 hb5.size;clear hb5;cases ok with
    |none=>
     obtain⟨a1,a2,a3,rfl⟩:=hcase;go_wp2_with (first|((with_reducible refine Ac (op:=⟨none,.store 60 _ _,_,_,_,none⟩) rfl 60 _ _ rfl w2 2 [.string a1,.string a2,.string a3] ?_ ?_ ?_ ?_ ?_ ?_);rfl;rfl;(exact Kz HK5.o 2 3 aL aL);kernel_rfl;(simp[Value.oneCell']);intro w6 HS6;have HT6:=@Aa (w6.there w 0 6) (HS6.o ▸ ai HT5.o _ _ _);have HR6:=@Aa (w6.rangeAt w2 0 [(n:Int),b,.string a1,.string a2,.string a3,vl]) (HS6.o ▸ Cm [(n:Int),b] [a6,a6,a6] [vl] [.string a1,.string a2,.string a3] HR5.o rfl);have Hb6:=@Aa (Below w w w6) (HS6.o ▸ Ak _ (Nat.le_of_lt hzz) _ _ _ Hb5.o);have hz6:w2.heap.size<w6.heap.size:=df;have z2:w6.cell? (w2,2)=some (.string a1):=cO;have z3:w6.cell? (w2,3)=some (.string a2):=cP;clear HT5 HR5 HK5 HS6)|((with_reducible refine Ac (op:=⟨none,.store 97 _ _,_,_,_,none⟩) rfl 97 _ _ rfl w 0 [.int .i64 0,a6,a6,a6,a6,a6] ?_ ?_ ?_ ?_ ?_ ?_);rfl;rfl;(first|exact au HT6.o _|exact HT6.o);kernel_rfl;(simp[Value.oneCell']);intro w9 HS9))
     have HZ:=@Aa (w9.rangeAt w 0 [.int .i64 0,a6,a6,a6,a6,a6]) bX;refine aG (v:=.tuple #[.agg ([.int .i64 0,a6,a6,a6,a6,a6]:List Value).toArray,.bool false]) ?_ rfl ?_
     ·exact fX
     exact Em.no HF2.o rfl bB
    |some k=>
     have hcase':e=.returned (.tuple #[.agg #[k.signs,k.base,k.name],.bool true]):=hcase;subst hcase';clear hcase;have Hkk:=Aa (Hkok.o k rfl);have HF3:=@Aa (Ja st s=if td=true/\¬(st=82/\k.signs=[]/\Ce k.base vl=true)then none else some ⟨n,b,k,vl⟩) HF2.o;clear HF2 Hkok;cases td with
     |false=>
      go_wp2_with (first|((with_reducible refine Ac (op:=⟨none,.store 60 _ _,_,_,_,none⟩) rfl 60 _ _ rfl w2 2 [k.signs,k.base,k.name] ?_ ?_ ?_ ?_ ?_ ?_);rfl;rfl;(exact Kz HK5.o 2 3 aL aL);kernel_rfl;(simp[Value.oneCell']);intro w6 HS6;have HT6:=@Aa (w6.there w 0 6) (HS6.o ▸ ai HT5.o _ _ _);have HR6:=@Aa (w6.rangeAt w2 0 [(n:Int),b,k.signs,k.base,k.name,vl]) (HS6.o ▸ Cm [(n:Int),b] [a6,a6,a6] [vl] [k.signs,k.base,k.name] HR5.o rfl);have Hb6:=@Aa (Below w w w6) (HS6.o ▸ Ak _ (Nat.le_of_lt hzz) _ _ _ Hb5.o);have hz6:w2.heap.size<w6.heap.size:=df;have z2:w6.cell? (w2,2)=k.signs:=cO;have z3:w6.cell? (w2,3)=k.base:=cP;clear HT5 HR5 HK5 HS6)|((with_reducible refine Ac (op:=⟨none,.store 97 _ _,_,_,_,none⟩) rfl 97 _ _ rfl w 0 [(n:Int),b,k.signs,k.base,k.name,vl] ?_ ?_ ?_ ?_ ?_ ?_);rfl;rfl;(first|exact au HT6.o _|exact HT6.o);kernel_rfl;(simp[Value.oneCell']);intro w9 HS9)|((with_reducible refine wpList_load_mid (op:=⟨_,.load 97 _,_,_,_,none⟩) rfl 97 _ rfl w2 0 ?_ [(n:Int),b,k.signs,k.base,k.name,vl] _ HR6.o underlying97 ?_ ?_ ?_);rfl;rfl;kernel_rfl))
      have HZ:=@Aa (w9.rangeAt w 0 [(n:Int),b,k.signs,k.base,k.name,vl]) bX;refine aG (v:=.tuple #[.agg ([(n:Int),b,k.signs,k.base,k.name,vl]:List Value).toArray,.bool true]) ?_ rfl ?_
      ·exact gQ
      exact Em.yes (HF3.o.trans (if_neg aK)) rfl bB
     |true=>
      rcases Decidable.em (st=82)with h82|h82
      ·have n82:((st.toNat:Int) != 82)=false:=My (c:=st) (d:=82) h82;rcases Decidable.em (k.signs=[])with hsg|hsg
       ·have hsg1:(k.signs != [])=false:=cI;have hsg2:k.signs.isEmpty=true:=cI;have hsg3:(!k.signs.isEmpty)=false:=cI;have hbl:=Qg7 Hkk.o.2.1;have Hst:=Aa (fun W=>Qcf k.base vl W hbl aI)
        have Hst2:=Aa (show Ja st s=if Ce k.base vl=true then some ⟨n,b,k,vl⟩else none from by
         rw[HF3.o];by_cases hh:Ce k.base vl=true
         ·rw[if_neg (by simp[h82,hsg,hh]),if_pos hh]
         rw[if_pos (by simp[hh]),if_neg hh])
        generalize Ce k.base vl=sb at Hst Hst2;clear hsg h82 hbl;go_wp2_with ((with_reducible refine Ac (op:=⟨none,.store 60 _ _,_,_,_,none⟩) rfl 60 _ _ rfl w2 2 [k.signs,k.base,k.name] ?_ ?_ ?_ ?_ ?_ ?_);rfl;rfl;(exact Kz HK5.o 2 3 aL aL);kernel_rfl;(simp[Value.oneCell']);intro w6 HS6;have HT6:=@Aa (w6.there w 0 6) (HS6.o ▸ ai HT5.o _ _ _);have HR6:=@Aa (w6.rangeAt w2 0 [(n:Int),b,k.signs,k.base,k.name,vl]) (HS6.o ▸ Cm [(n:Int),b] [a6,a6,a6] [vl] [k.signs,k.base,k.name] HR5.o rfl);have Hb6:=@Aa (Below w w w6) (HS6.o ▸ Ak _ (Nat.le_of_lt hzz) _ _ _ Hb5.o);have hz6:w2.heap.size<w6.heap.size:=df;have z2:w6.cell? (w2,2)=k.signs:=cO;have z3:w6.cell? (w2,3)=k.base:=cP;clear HT5 HR5 HK5 HS6)
        refine(Hst.o _).mono ?_;rintro e w7 ⟨rfl,hb7⟩;have HT7:=@Aa (w7.there w 0 6) (An HT6.o aI hb7);have HR7:=@Aa (w7.rangeAt w2 0 _) (Ar HR6.o hz6 hb7);have Hb7:=Aa (Hb6.o.trans (hb7.mono Hb6.o.size));clear hb7 z2 z3;cases sb with
        |true=>
         go_wp2_with (first|((with_reducible refine Ac (op:=⟨none,.store 97 _ _,_,_,_,none⟩) rfl 97 _ _ rfl w 0 [(n:Int),b,k.signs,k.base,k.name,vl] ?_ ?_ ?_ ?_ ?_ ?_);rfl;rfl;(first|exact au HT7.o _|exact HT7.o);kernel_rfl;(simp[Value.oneCell']);intro w9 HS9)|((with_reducible refine wpList_load_mid (op:=⟨_,.load 97 _,_,_,_,none⟩) rfl 97 _ rfl w2 0 ?_ [(n:Int),b,k.signs,k.base,k.name,vl] _ HR7.o underlying97 ?_ ?_ ?_);rfl;rfl;kernel_rfl))
         have HZ:=@Aa (w9.rangeAt w 0 [(n:Int),b,k.signs,k.base,k.name,vl]) dQ;refine aG (v:=.tuple #[.agg ([(n:Int),b,k.signs,k.base,k.name,vl]:List Value).toArray,.bool true]) ?_ rfl ?_
         ·exact gQ
         exact Em.yes (Hst2.o.trans (if_pos aK)) rfl da
        |false=>
         go_wp2_with ((with_reducible refine Ac (op:=⟨none,.store 97 _ _,_,_,_,none⟩) rfl 97 _ _ rfl w 0 [.int .i64 0,a6,a6,a6,a6,a6] ?_ ?_ ?_ ?_ ?_ ?_);rfl;rfl;(first|exact au HT7.o _|exact HT7.o);kernel_rfl;(simp[Value.oneCell']);intro w9 HS9)
         have HZ:=@Aa (w9.rangeAt w 0 [.int .i64 0,a6,a6,a6,a6,a6]) dQ;refine aG (v:=.tuple #[.agg ([.int .i64 0,a6,a6,a6,a6,a6]:List Value).toArray,.bool false]) ?_ rfl ?_
         ·exact fX
         exact Em.no (Hst2.o.trans (if_neg aL)) rfl da
       have hsg1:(k.signs != [])=true:=cI;have hsg2:k.signs.isEmpty=false:=cI;have hsg3:(!k.signs.isEmpty)=true:=cI;have Hw:=Aa (HF3.o.trans (if_pos ⟨rfl,fun h=>hsg h.2.1⟩));clear hsg h82;go_wp2_with (first|((with_reducible refine Ac (op:=⟨none,.store 60 _ _,_,_,_,none⟩) rfl 60 _ _ rfl w2 2 [k.signs,k.base,k.name] ?_ ?_ ?_ ?_ ?_ ?_);rfl;rfl;(exact Kz HK5.o 2 3 aL aL);kernel_rfl;(simp[Value.oneCell']);intro w6 HS6;have HT6:=@Aa (w6.there w 0 6) (HS6.o ▸ ai HT5.o _ _ _);have HR6:=@Aa (w6.rangeAt w2 0 [(n:Int),b,k.signs,k.base,k.name,vl]) (HS6.o ▸ Cm [(n:Int),b] [a6,a6,a6] [vl] [k.signs,k.base,k.name] HR5.o rfl);have Hb6:=@Aa (Below w w w6) (HS6.o ▸ Ak _ (Nat.le_of_lt hzz) _ _ _ Hb5.o);have hz6:w2.heap.size<w6.heap.size:=df;have z2:w6.cell? (w2,2)=k.signs:=cO;have z3:w6.cell? (w2,3)=k.base:=cP;clear HT5 HR5 HK5 HS6)|((with_reducible refine Ac (op:=⟨none,.store 97 _ _,_,_,_,none⟩) rfl 97 _ _ rfl w 0 [.int .i64 0,a6,a6,a6,a6,a6] ?_ ?_ ?_ ?_ ?_ ?_);rfl;rfl;(first|exact au HT6.o _|exact HT6.o);kernel_rfl;(simp[Value.oneCell']);intro w9 HS9))
       have HZ:=@Aa (w9.rangeAt w 0 [.int .i64 0,a6,a6,a6,a6,a6]) bX;refine aG (v:=.tuple #[.agg ([.int .i64 0,a6,a6,a6,a6,a6]:List Value).toArray,.bool false]) ?_ rfl ?_
       ·exact fX
       exact Em.no Hw.o rfl bB
      have n82:((st.toNat:Int) != 82)=true:=Qm (c:=st) (d:=82) h82;have Hw:=Aa (HF3.o.trans (if_pos ⟨rfl,fun h=>h82 h.1⟩));clear h82;go_wp2_with (first|((with_reducible refine Ac (op:=⟨none,.store 60 _ _,_,_,_,none⟩) rfl 60 _ _ rfl w2 2 [k.signs,k.base,k.name] ?_ ?_ ?_ ?_ ?_ ?_);rfl;rfl;(exact Kz HK5.o 2 3 aL aL);kernel_rfl;(simp[Value.oneCell']);intro w6 HS6;have HT6:=@Aa (w6.there w 0 6) (HS6.o ▸ ai HT5.o _ _ _);have HR6:=@Aa (w6.rangeAt w2 0 [(n:Int),b,k.signs,k.base,k.name,vl]) (HS6.o ▸ Cm [(n:Int),b] [a6,a6,a6] [vl] [k.signs,k.base,k.name] HR5.o rfl);have Hb6:=@Aa (Below w w w6) (HS6.o ▸ Ak _ (Nat.le_of_lt hzz) _ _ _ Hb5.o);have hz6:w2.heap.size<w6.heap.size:=df;have z2:w6.cell? (w2,2)=k.signs:=cO;have z3:w6.cell? (w2,3)=k.base:=cP;clear HT5 HR5 HK5 HS6)|((with_reducible refine Ac (op:=⟨none,.store 97 _ _,_,_,_,none⟩) rfl 97 _ _ rfl w 0 [.int .i64 0,a6,a6,a6,a6,a6] ?_ ?_ ?_ ?_ ?_ ?_);rfl;rfl;(first|exact au HT6.o _|exact HT6.o);kernel_rfl;(simp[Value.oneCell']);intro w9 HS9))
      have HZ:=@Aa (w9.rangeAt w 0 [.int .i64 0,a6,a6,a6,a6,a6]) bX;refine aG (v:=.tuple #[.agg ([.int .i64 0,a6,a6,a6,a6,a6]:List Value).toArray,.bool false]) ?_ rfl ?_
      ·exact fX
      exact Em.no Hw.o rfl bB
 have Hno:=Aa (HF.o.trans (Y7 (vl:=vl) (td:=td) (st:=st) (ps:=ps) (by rw[if_neg Hst0.o];exact hlen)));have hl1:¬(ps.length:Int)=3:=aI;have hl2:((ps.length:Int) != 3)=true:=by rw[bne_iff_ne];exact hl1
 clear HF Hpl Hcells;go_wp2_with ((with_reducible refine Ac (op:=⟨none,.store 97 _ _,_,_,_,none⟩) rfl 97 _ _ rfl w 0 [.int .i64 0,a6,a6,a6,a6,a6] ?_ ?_ ?_ ?_ ?_ ?_);rfl;rfl;(first|exact au HT.o _|exact HT.o);kernel_rfl;(simp[Value.oneCell']);intro w9 HS9)
 have HZ:=@Aa (w9.rangeAt w 0 [.int .i64 0,a6,a6,a6,a6,a6]) bj;refine aG (v:=.tuple #[.agg ([.int .i64 0,a6,a6,a6,a6,a6]:List Value).toArray,.bool false]) ?_ rfl ?_
 ·exact fX
 exact Em.no Hno.o rfl aX
theorem Qas(st:UInt8)(hst:Ej st)(s:List UInt8)(w:World)(hs:s.length<=4000000):
  Calls prog 175 #[s,.int .u8 (st.toNat:Int)] w (Em (Ja st s) w):=by
 by_cases h:st=69
 ·exact Qk8 st h s w hs
 exact Qkh st h s w hs
def Fs(o:Option Ty)(w:World)(e:Ending)(w':World):Prop:=
 (match o with
  |some t=>∃x:PT,x.ty=t/\e=.returned (.tuple #[x.ptr,.bool true])/\w.heap.size<=x.blk/\Tc w' x/\∀k,x.fv.ownBlock=some k->w.heap.size<=k
  |none=>∃p:Option Addr,e=.returned (.tuple #[.pointer p,.bool false]))/\Below w w w'
theorem Fs.no{w w':World}{e:Ending}{o:Option Ty}(ho:o=none){p:Option Addr}(he:e=.returned (.tuple #[.pointer p,.bool false]))(hb:Below w w w'):Fs o w e w':=by
 rw[ho];exact⟨⟨p,he⟩,hb⟩
theorem Fs.yes{w w':World}{e:Ending}{o:Option Ty}{t:Ty}(ho:o=some t){b:Nat}{fv:Value}(he:e=.returned (.tuple #[b,.bool true]))(hwb:w.heap.size<=b)(ht:Tc w' ⟨t,b,fv⟩)(hf:∀k,fv.ownBlock=some k->w.heap.size<=k)(hb:Below w w w'):Fs o w e w':=by
 rw[ho];exact⟨⟨⟨t,b,fv⟩,rfl,he,hwb,ht,hf⟩,hb⟩
theorem Zi(c:UInt8):decide (c∈([82,85,69]:List UInt8))=decide (Ej c):=by
 rw[decide_eq_decide];unfold Ej;simp
theorem Qig(w:World):Calls prog 120 #[a6] w (Fs (Fe []) w):=by
 go_enter func120,ntmps120;go_wp2_with fail;go_ret2;exact Fs.no rfl rfl (Aq _ _)
theorem Qhc(c:UInt8)(r:List UInt8)(w:World)(hs:r.length<=3999999)(hc:¬Ej c):Calls prog 120 #[.string ⟨(c::r).toArray⟩] w (Fs (Fe (c::r)) w):=by
 have HF:=Aa (show Fe (c::r)=none by unfold Fe;simp only;rw[if_pos (.inl hc)])
 have Hc:=Aa (fun W=>(show Calls prog 173 #[.string ⟨#[82,85,69]⟩,.string ⟨#[c]⟩] W fun e w'=>e=.returned (.bool false)/\W=w' from by
  have:=N4 [82,85,69] c W;rw[Zi,aD hc]at this;exact this))
 clear hc;go_enter func120,ntmps120;go_wp2_with fail;refine(Hc.o _).mono ?_;rintro e w' ⟨rfl,rfl⟩;go_wp2_with fail;go_ret2;exact Fs.no HF.o rfl (Aq _ _)
theorem Qg8(c:UInt8)(r:List UInt8)(w:World)(hs:r.length<=3999999)(hc:Ej c)(h:(Dj 61 r).2.2=false\/Bf (Dj 61 r).1=false\/(Dj 61 r).2.1=[]):Calls prog 120 #[.string ⟨(c::r).toArray⟩] w (Fs (Fe (c::r)) w):=by
 have HF:=Aa (show Fe (c::r)=if (Dj 61 r).2.2=false\/Bf (Dj 61 r).1=false then none else(if c=82 then some ⟨c,(Dj 61 r).1,[]⟩else none)by
  unfold Fe;simp only;by_cases h1:(Dj 61 r).2.2=false\/Bf (Dj 61 r).1=false
  ·rw[if_pos (.inr h1),if_pos h1]
  have h2:(Dj 61 r).2.1=[]:=by
   rcases h with h|h|h
   ·exact absurd (.inl h) h1
   ·exact absurd (.inr h) h1
   exact h
  rw[if_neg (fun h3=>h3.elim (fun h3=>h3 hc) h1),if_neg h1,if_pos h2])
 have Hc:=Aa (fun W=>(show Calls prog 173 #[.string ⟨#[82,85,69]⟩,.string ⟨#[c]⟩] W fun e w'=>e=.returned (.bool true)/\W=w' from by
  have:=N4 [82,85,69] c W;rw[Zi,aE hc]at this;exact this))
 have Hl:=Aa (fun(f:(Dj 61 r).2.2=true/\(Dj 61 r).2.1=[])=>show tyB ⟨c,(Dj 61 r).1,[]⟩=c::r from by
  rcases Fy 61 r with⟨_,e⟩|⟨p,t,e1,_,e⟩
  ·rw[e]at f;cases f.1
  rw[e]at f ⊢;simp only at f;have:=f.2;subst this;rw[e1];rfl)
 have Hcut:=Aa (fun W=>Sz r 61 W aI);have hcl:=(Mq 61 r).1;generalize Dj 61 r=q at *;obtain⟨nm,rest,told⟩:=q;simp only at hcl HF h Hl;have Hh:=Aa h;have Hc82:=Aa hc;clear hc h;go_enter func120,ntmps120;go_wp2_with fail;refine(Hc.o _).mono ?_;rintro e w' ⟨rfl,rfl⟩;go_wp2_with fail;refine(Hcut.o _).mono ?_;rintro e w1 ⟨rfl,k1,rfl⟩;unfold Qfb;cases told with
 |false=>
  go_wp2_with fail;go_ret2;exact Fs.no (HF.o.trans (if_pos aK)) rfl (below_drewN (Aq _ _) _)
 |true=>
  have Hname:=Aa (fun W=>Mr nm W aI);generalize hnb:Bf nm=nb at *;have Hnb:=Aa hnb;clear hnb;go_wp2_with fail;refine(Hname.o _).mono ?_;rintro e w2 ⟨rfl,hb2⟩;have Hb2:=@Aa (Below w w w2) ((below_drewN (Aq _ _) k1).trans (by simpa using hb2));clear hb2;cases nb with
  |false=>
   go_wp2_with fail;go_ret2;exact Fs.no (HF.o.trans (if_pos aK)) rfl Hb2.o
  |true=>
   obtain rfl:rest=[]:=by
    rcases Hh.o with h|h|h
    ·cases h
    ·cases h
    exact h
   have HF2:=Aa (HF.o.trans (if_neg aK));have Hl2:=Aa (Hl.o aK);have hz:=Hb2.o.size;rcases Decidable.em (c=82)with h82|h82
   ·have t1:((c.toNat:Int) == 82)=true:=Bv (d:=82) h82;have HF3:=Aa (HF2.o.trans (if_pos h82));clear h82;go_wp2_with fail;go_quiet (fail)
    go_wp2_with fail;go_ret2;refine Fs.yes HF3.o (b:=w2.heap.size) (fv:=.slice none 0 0) rfl Hb2.o.size ?_ (fun k hk=>by simp[Value.ownBlock]at hk) di;refine⟨by simp,by first|exact Qk.new _ _ _|exact Qk.belowAt (Qk.new w2 _ _) aK (by first|exact below_drewN (Aq _ _) _|exact(Aq _ _).drew),by simp,by simp,by simp,?_,none,0,rfl,by simp,rfl,ag _,fun h=>absurd h aK⟩;rw[Hl2.o];simp
   have t1:((c.toNat:Int) == 82)=false:=At (d:=82) h82;have HF3:=Aa (HF2.o.trans (if_neg h82));clear h82;go_wp2_with fail;go_quiet (fail)
   go_wp2_with fail;go_ret2;exact Fs.no HF3.o rfl di
def Qni(c:UInt8)(nm:List UInt8):Option (List Fd)->Option Ty
 |some r=>some ⟨c,nm,r⟩
 |none=>none
theorem Qdb{c:UInt8}{r nm rest:List UInt8}(hc:Ej c)(h:Dj 61 r=(nm,rest,true))(hn:Bf nm=true)(hr:rest≠[]):Fe (c::r)=Qni c nm (Fx c (Aj 44 rest) []):=by
 unfold Fe;simp only[h];rw[if_neg (by simp[hc,hn]),if_neg hr];cases Fx c (Aj 44 rest) []<;>rfl
theorem Qct{c:UInt8}{ps:List (List UInt8)}{acc:List Fd}{k:Nat}(hk:k<ps.length):Fx c (ps.drop k) acc=(match Ja c ps[k]with|none=>none|some f=>if acc.length=8\/Gr acc f=false then none else Fx c (ps.drop (k+1)) (acc++[f])):=by
 rw[List.drop_eq_getElem_cons hk,Fx];cases Ja c ps[k]<;>rfl
theorem Qf5{acc:List Fd}{f:Fd}(h:∀g∈acc,g.name≠f.name/\g.tag<f.tag):Gr acc f=true:=Mm.2 h
theorem Qeb{acc:List Fd}{f x:Fd}(hx:x∈acc)(h:f.tag<=x.tag\/x.name=f.name):Gr acc f=false:=by
 cases hh:Gr acc f with
 |false=>rfl
 |true=>
  obtain⟨h1,h2⟩:=Mm.1 hh x hx;rcases h with h|h
  ·omega
  exact absurd h h1
theorem Q8(w:World)(a:Addr)(v:Value):w.grownBy (w.setCell a v) (some a.block):=
 ⟨rfl,rfl,rfl,by simp,fun k _ hk=>Go.heap_setCell_other _ _ _ _ (fun e=>hk (by rw[e]))⟩
theorem Qbu{w:World}{base k n:Nat}{e:TypeId}{v:Value}{xs:List Value}(h:w.ownsRow base e k v n xs):∃A m c,v=.slice A m c:=by
 rcases h.2 with⟨rfl,_⟩|⟨g,cap,cur,rfl,_⟩
 ·exact⟨_,_,_,rfl⟩
 exact⟨_,_,_,rfl⟩
theorem Tryz.infoIf:(prog.info? 97).map (fun i=>(i.zero,i.size,i.bytes))=some (some (.agg #[.int .i64 0,a6,a6,a6,a6,a6]),6,88):=aN
theorem Qns(fs:List Fd):∀y∈fs.flatMap Tq,y.oneCell'=true:=by
 intro y hy;obtain⟨f,_,hf⟩:=List.mem_flatMap.1 hy;simp[Tq]at hf;rcases hf with rfl|rfl|rfl|rfl|rfl|rfl<;>rfl
theorem Qf7(c:UInt8)(r nm rest:List UInt8)(w:World)(hs:r.length<=3999999)(hc:Ej c)(h:Dj 61 r=(nm,rest,true))(hn:Bf nm=true)(hr:rest≠[]):
  Calls prog 120 #[.string ⟨(c::r).toArray⟩] w (Fs (Fe (c::r)) w):=by
 have HF:=Aa (Qdb hc h hn hr)
 have Hc:=Aa (fun W=>(show Calls prog 173 #[.string ⟨#[82,85,69]⟩,.string ⟨#[c]⟩] W fun e w'=>e=.returned (.bool true)/\W=w' from by
  have:=N4 [82,85,69] c W;rw[Zi,aE hc]at this;exact this))
 have Hcut:=Aa (fun W=>Sz r 61 W aI);have hcl:=Mq 61 r;have Hcut2:=Aa h;rw[h]at Hcut hcl;simp only at hcl;have hcl1:=hcl.1;have hcl2:=hcl.2;have Hname:=Aa (fun W=>Mr nm W aI);rw[hn]at Hname;have Hsp:=Aa (fun W=>Vh rest 44 W aI);have hne:=Ex 44 rest;have Hpl:=Aa (Ao 44 rest);have Hln:=Aa (Jc 44 rest);generalize Aj 44 rest=ps at HF Hsp hne Hpl Hln;have Hcs:=Aa hc;have hpsl:ps.length<=4000000:=by have:=Hln.o;omega
 have hr1:rest.isEmpty=false:=dW;have hr2:(rest == [])=false:=dW;clear h hn hr hc hcl;go_enter func120,ntmps120;go_wp2_with fail;refine(Hc.o _).mono ?_;rintro e w' ⟨rfl,rfl⟩;go_wp2_with fail;refine(Hcut.o _).mono ?_;rintro e w1 ⟨rfl,k1,rfl⟩;unfold Qfb;go_wp2_with fail;refine(Hname.o _).mono ?_;rintro e w2 ⟨rfl,hb2⟩;have Hb2:=@Aa (Below w w w2) ((below_drewN (Aq _ _) k1).trans (by simpa using hb2));have hz2:=Hb2.o.size;clear hb2;go_wp2_with fail;refine(Hsp.o _).mono ?_;rintro e w3 ⟨v,rfl,ho,hb3⟩;obtain⟨g,cg,rfl,hg1,hg2,hcells⟩:=Nv ho hne;have hg1':w2.heap.size+1<=g:=by simpa using hg1
 have hz3:w2.heap.size<w3.heap.size:=aI;have HT0:=@Aa (w3.rangeAt w2 0 [.int .u8 (c.toNat:Int),nm,.slice none 0 0,.string ⟨(c::r).toArray⟩]) (Ar (Br w2 _ _) aK hb3);have HK0:=@Aa (w3.there w2 0 4) (An (Cu w2 [.int .u8 (c.toNat:Int),nm,.slice none 0 0,.string ⟨(c::r).toArray⟩] _) aK hb3);have HB0:=@Aa (Qk w3 w2.heap.size) ((Qk.new w2 _ _).belowAt aK hb3);have Hb3:=@Aa (Below w w w3) ((Hb2.o.alloc Hb2.o.size _).trans (hb3.mono aO));have Hcells:=@Aa (∀j (hj:j<ps.length),w3.cell? ⟨g,j,none⟩=some (.string ⟨ps[j].toArray⟩)) hcells;have Hown0:=Aa (World.ownsRow_nil w3 w3 97 6);clear ho hb3 hcells hg1 hne;go_wp2_with fail
 go_loopw [53] (fun i wr=>∃(k:Nat) (acc:List Fd) (fv:Value),i=.int .i64 k/\k<=ps.length/\acc.length<=8/\Hid (Fe (c::r)=Qni c nm (Fx c (ps.drop k) acc)) /\
   Hid (wr.ownsRow w3 97 6 fv acc.length (acc.flatMap Tq))/\Hid (Below w w wr)/\w3.heap.size<=wr.heap.size /\
   Hid (∀j (hj:j<ps.length),wr.cell? ⟨g,j,none⟩=some (.string ⟨ps[j].toArray⟩)) /\
   Hid (wr.rangeAt w2 0 [.int .u8 (c.toNat:Int),nm,fv,.string ⟨(c::r).toArray⟩])/\Hid (wr.there w2 0 4)/\Hid (Qk wr w2.heap.size)) (fun i _=>ps.length - (intOf i).toNat)
 case atStart=>exact⟨0,[],.slice none 0 0,rfl,ag _,by simp,HF.o,Hown0.o,Hb3.o,Al _,Hcells.o,HT0.o,HK0.o,HB0.o⟩
 case round=>
  obtain⟨wo,rfl⟩:∃wo:World,wo=wr:=⟨_,rfl⟩
  obtain⟨k,acc,fv,rfl,hk,ha8,hft,hown,hbr,hzr,hpr,hT,hK,hB⟩:=hrel;have i1:(0:Int)<=(k:Int):=aI;obtain⟨A,cA,rfl,hrow⟩:=Ca.ownK hown.o bc;have Hrow:=Aa hrow;have t0:wo.cell? (w2,0)=some (.int .u8 (c.toNat:Int)):=by simpa using Ab hT.o 0 rfl
  have t2:wo.cell? (w2,2)=some (.slice A acc.length cA):=by simpa using Ab hT.o 2 rfl
  clear hrow;by_cases hlt:k<ps.length
  ·have i2:(k:Int)<(ps.length:Int):=aI;have cell:=hpr.o k hlt;have hft2:=Aa ((Qct (c:=c) (acc:=acc) hlt) ▸ hft.o);have hplk:=Hpl.o _ (ae hlt);generalize ps[k]=p at cell hft2 hplk;have Hread:=Aa (fun W=>Qas c Hcs.o p W aI);generalize Ja c p=o at hft2 Hread;go_wp2_with fail;refine(Hread.o _).mono ?_;rintro e w4 ⟨hcase,hb4⟩;have Hb4:=Aa (hbr.o.trans (hb4.mono hbr.o.size));cases o with
   |none=>
    obtain⟨n,a1,a2,a3,a4,a5,rfl⟩:=hcase;have Hend:=@Aa (Fe (c::r)=none) hft2.o;go_wp2_with fail;go_ret2;exact Fs.no Hend.o rfl (Hb4.o.alloc Hb4.o.size _)
   |some f=>
    have hcase':e=.returned (.tuple #[.agg #[(f.tag:Int),f.name,f.kind.signs,f.kind.base,f.kind.name,f.given],.bool true]):=hcase;subst hcase';clear hcase;have s0:=(hb4.cell (p:=⟨w2.heap.size,0,none⟩) (show w2.heap.size<wo.heap.size by omega)).trans t0;have s2:=(hb4.cell (p:=⟨w2.heap.size,2,none⟩) (show w2.heap.size<wo.heap.size by omega)).trans t2;have hz4:wo.heap.size<=w4.heap.size:=hb4.size;have hn4:¬(w2.heap.size=w4.heap.size):=aI;have hn5:w2.heap.size<w4.heap.size:=aI;have Hb4r:=Aa hb4;clear t0 t2 hb4;have hft3:=@Aa (Fe (c::r)=Qni c nm (if acc.length=8\/Gr acc f=false then none else Fx c (ps.drop (k+1)) (acc++[f]))) hft2.o;clear hft2;rcases Nat.eq_or_lt_of_le ha8 with h8|h8
    ·have q1:((acc.length:Int) == 8)=true:=by simp[h8]
     have Hend:=Aa (hft3.o.trans (by rw[if_pos (.inl h8)]));clear h8;go_wp2_with fail;go_ret2;exact Fs.no Hend.o rfl (Hb4.o.alloc Hb4.o.size _)
    have q1:((acc.length:Int) == 8)=false:=cf;go_wp2_with fail;have f0:(w4.alloc (.cells #[(f.tag:Int),f.name,f.kind.signs,f.kind.base,f.kind.name,f.given] 97)).cell? (w4,0)=(f.tag:Int):=aK;have f1:(w4.alloc (.cells #[(f.tag:Int),f.name,f.kind.signs,f.kind.base,f.kind.name,f.given] 97)).cell? (w4,1)=f.name:=aK;have HR0:=Aa (Br w4 [(f.tag:Int),f.name,f.kind.signs,f.kind.base,f.kind.name,f.given] 97);go_loopw [81] (fun jj wq=>∃j:Nat,jj=.int .i64 j/\j<=acc.length/\Hid (∀x∈acc.take j,x.name≠f.name/\x.tag<f.tag)/\Hid (Below w4 w4 wq)/\w4.heap.size<wq.heap.size/\Hid (wq.rangeAt w4 0 [(f.tag:Int),f.name,f.kind.signs,f.kind.base,f.kind.name,f.given])) (fun jj _=>acc.length - (intOf jj).toNat)
    case atStart=>exact⟨0,rfl,ag _,by intro x hx;simp at hx,(Aq _ _).alloc (Al _) _,by simp,HR0.o⟩
    case round=>
     clear f0 f1;obtain⟨j,rfl,hj,hin,hbq,hzq,hfr⟩:=hrel;have j1:(0:Int)<=(j:Int):=aI;have f0:wr.cell? (w4,0)=(f.tag:Int):=by simpa using Ab hfr.o 0 rfl
     have f1:wr.cell? (w4,1)=f.name:=by simpa using Ab hfr.o 1 rfl
     have hnq:¬(w4.heap.size=wr.heap.size):=aI;have Hbq:=Aa (Hb4.o.trans (hbq.o.mono Hb4.o.size));by_cases hjl:j<acc.length
     ·have j2:(j:Int)<(acc.length:Int):=aI;obtain⟨bA,oA,rfl,hbA,hrg⟩:=Qag.range ((Hrow.o.below Hb4r.o).below hbq.o) hjl;have Hts:=Aa (Cv acc j hjl);have Hmem:=Aa (ae hjl);have Hrg:=@Aa (wr.rangeAt bA (oA+j*6) [.int .i64 (acc[j].tag:Int),.string ⟨acc[j].name.toArray⟩,.string ⟨acc[j].kind.signs.toArray⟩,.string ⟨acc[j].kind.base.toArray⟩,.string ⟨acc[j].kind.name.toArray⟩,.string ⟨acc[j].given.toArray⟩]) hrg;clear hrg;generalize acc[j]=x at Hts Hmem Hrg;rcases Decidable.em (x.name=f.name)with hnm|hnm
      ·have q2:(x.name == f.name)=true:=by simp[hnm]
       have Hend:=Aa (hft3.o.trans (by rw[if_pos (.inr (Qeb Hmem.o (.inr hnm)))]));clear hnm;go_wp2_with ((with_reducible refine wpList_load_mid (op:=⟨_,.load 97 _,_,_,_,none⟩) rfl 97 _ rfl bA (oA+j*6) ?_ _ _ Hrg.o underlying97 ?_ ?_ ?_);rfl;rfl;kernel_rfl)
       go_ret2;exact Fs.no Hend.o rfl (Hbq.o.alloc Hbq.o.size _)
      have q2:(x.name == f.name)=false:=by simp[hnm]
      rcases aH x.tag f.tag with ht|ht
      ·have q3:decide ((f.tag:Int)<=(x.tag:Int))=false:=dN
       have Hin:=Aa (show ∀y∈acc.take (j+1),y.name≠f.name/\y.tag<f.tag from by
        intro y hy;rw[Hts.o]at hy;rcases af.1 hy with hy|hy
        ·exact hin.o y hy
        simp at hy;subst hy;exact⟨hnm,ht⟩)
       clear hnm;go_wp2_with ((with_reducible refine wpList_load_mid (op:=⟨_,.load 97 _,_,_,_,none⟩) rfl 97 _ rfl bA (oA+j*6) ?_ _ _ Hrg.o underlying97 ?_ ?_ ?_);rfl;rfl;kernel_rfl)
       go_roundw
       case rel=>exact⟨j+1,by go_num,by omega,Hin.o,hbq.o.alloc (Nat.le_of_lt hzq) _,by simp;omega,Ar hfr.o hzq ((Aq wr.heap.size wr).alloc (Al _) _)⟩
       case measure=>simp[intOf];omega
      have q3:decide ((f.tag:Int)<=(x.tag:Int))=true:=by rw[decide_eq_true_iff];omega
      have Hend:=Aa (hft3.o.trans (by rw[if_pos (.inr (Qeb Hmem.o (.inl ht)))]));clear hnm;go_wp2_with ((with_reducible refine wpList_load_mid (op:=⟨_,.load 97 _,_,_,_,none⟩) rfl 97 _ rfl bA (oA+j*6) ?_ _ _ Hrg.o underlying97 ?_ ?_ ?_);rfl;rfl;kernel_rfl)
      go_ret2;exact Fs.no Hend.o rfl (Hbq.o.alloc Hbq.o.size _)
     ·have j2:¬(j:Int)<(acc.length:Int):=aI
      have Hft4:=Aa (show Fe (c::r)=Qni c nm (Fx c (ps.drop (k+1)) (acc++[f]))from by
       rw[hft3.o,if_neg];rintro(h|h)
       ·omega
       rw[Qf5 (fun y hy=>hin.o y (by rw[av aI];exact hy))]at h;cases h)
      have hb1:Below wo wo wr:=Hb4r.o.trans (hbq.o.mono hz4);have Hown:=Aa (Cr hown.o hb1);have Hpr:=@Aa (∀j (hj:j<ps.length),wr.cell? ⟨g,j,none⟩=some (.string ⟨ps[j].toArray⟩)) (fun j hj=>(hb1.cell (p:=⟨g,j,none⟩) (show g<wo.heap.size by omega)).trans (hpr.o j hj));have HT1:=Aa (Ar hT.o (show w2.heap.size<wo.heap.size by omega) hb1);have HB1:=Aa (hB.o.belowAt (show w2.heap.size<wo.heap.size by omega) hb1);have HK1:=Aa (An hK.o (show w2.heap.size<wo.heap.size by omega) hb1);have hz5:w3.heap.size<=wr.heap.size:=aI;have hz6:w.heap.size<=w3.heap.size:=aI;clear hb1 f0 f1;go_wp2_with fail;refine Bm [98,99,100,101,102,103,104,105,106,107,999] aN aN aN (fun u=>by dsimp only[Bl,Bk,List.set,am,Nat.reduceAdd])
       (fun i v W=>match i with|0=>v=w2.heap.size|1=>v=w2.heap.size|2=>v=w2.heap.size|3=>v=(w2,2)|4=>v=.slice A acc.length cA|5=>v=.agg #[(f.tag:Int),f.name,f.kind.signs,f.kind.base,f.kind.name,f.given]|8=>v=w2.heap.size|9=>v=(w2,2)|_=>True)
       (fun L U W=>Below w w W/\w3.heap.size<=W.heap.size/\(∀j (hj:j<ps.length),W.cell? ⟨g,j,none⟩=some (.string ⟨ps[j].toArray⟩))/\(W.there w2 0 4/\Qk W w2.heap.size) /\
        (L 10=false->W.rangeAt w2 0 [.int .u8 (c.toNat:Int),nm,.slice A acc.length cA,.string ⟨(c::r).toArray⟩])/\(L 10=true->W.rangeAt w2 0 [.int .u8 (c.toNat:Int),nm,U 7,.string ⟨(c::r).toArray⟩]) /\
        (L 5=false->W.rangeAt w4 0 [(f.tag:Int),f.name,f.kind.signs,f.kind.base,f.kind.name,f.given])/\(L 7=false->W.ownsRow w3 97 6 (.slice A acc.length cA) acc.length (acc.flatMap Tq))/\(L 7=true->W.ownsRow w3 97 6 (U 7) (acc.length+1) (acc.flatMap Tq++Tq f)) /\
        (L 6=true->L 7=false->∃q,U 6=.slice (some ⟨q,0,none⟩) 1 1/\W.rangeAt q 0 [(f.tag:Int),f.name,f.kind.signs,f.kind.base,f.kind.name,f.given]))
       (fun _ _=>True) (fun w w' _ i v h=>by revert h;exact fun h=>h) ⟨Hbq.o.drew,hz5,Hpr.o,⟨HK1.o,HB1.o⟩,fun _=>HT1.o,by simp,fun _=>hfr.o,fun _=>Hown.o,by simp,by simp⟩ ?_ ?_
      ·repeat (first|exact Bb.nil|(refine Bb.cons ?_ ?_;rotate_left))
       all_goals
        rintro L U W hL hpre hR hun hdep K hK;have Hdep:=Aa hdep;have HR:=Aa hR;clear hun hdep hR;first|(simp[Region.binds]at hpre;done)|simp[Region.binds]at hpre|clear hpre
       ·go_simp;exact hK _ _ _ rfl Ae HR.o rfl
       ·go_simp;exact hK _ _ _ rfl Ae HR.o rfl
       ·have u1:=hpre.2;go_simp;exact hK w2.heap.size _ _ rfl Ae HR.o (by simp[Act.put,u1])
       ·have u2:=hpre.2;go_simp;exact hK (w2,2) _ _ rfl Ae HR.o (by simp[Act.put,u2])
       ·have h10:=(Ct Hdep.o 10 7 rfl (Ct Hdep.o 7 4 rfl hL))
        obtain⟨r1,r2,r3,r4,r5,r6,r7,r8,r9,r0⟩:=HR.o;have u3:=hpre.2;have c2:W.cell? (w2,2)=some (.slice A acc.length cA):=by simpa using Ab (r5 h10) 2 rfl
        clear r1 r2 r3 r4 r5 r6 r7 r8 r9 r0;go_simp;exact hK (.slice A acc.length cA) _ _ rfl Ae HR.o (by simp[Act.put,u3])
       ·obtain⟨r1,r2,r3,r4,r5,r6,r7,r8,r9,r0⟩:=HR.o;rw[if_pos dm];refine wp_load_mid 97 _ rfl w4 0 rfl [(f.tag:Int),f.name,f.kind.signs,f.kind.base,f.kind.name,f.given] _ (r7 hL) underlying97 rfl aN ?_;exact hK (.agg ([(f.tag:Int),f.name,f.kind.signs,f.kind.base,f.kind.name,f.given]:List Value).toArray) _ _ rfl Ae ⟨r1,r2,r3,r4,r5,r6,fun h=>by simp at h,r8,r9,r0⟩ rfl
       ·obtain⟨r1,r2,r3,r4,r5,r6,r7,r8,r9,r0⟩:=HR.o;have R1:=Aa r1;have u5:=hpre.2;have HF5:=Aa (Br W [(f.tag:Int),f.name,f.kind.signs,f.kind.base,f.kind.name,f.given] 97)
        have HRR:=Aa (show (∀j (hj:j<ps.length),(W.alloc (.cells #[(f.tag:Int),f.name,f.kind.signs,f.kind.base,f.kind.name,f.given] 97)).cell? ⟨g,j,none⟩=some (.string ⟨ps[j].toArray⟩))/\((W.alloc (.cells #[(f.tag:Int),f.name,f.kind.signs,f.kind.base,f.kind.name,f.given] 97)).there w2 0 4/\Qk (W.alloc (.cells #[(f.tag:Int),f.name,f.kind.signs,f.kind.base,f.kind.name,f.given] 97)) w2.heap.size) /\
         (L 10=false->(W.alloc (.cells #[(f.tag:Int),f.name,f.kind.signs,f.kind.base,f.kind.name,f.given] 97)).rangeAt w2 0 [.int .u8 (c.toNat:Int),nm,.slice A acc.length cA,.string ⟨(c::r).toArray⟩])/\(L 10=true->(W.alloc (.cells #[(f.tag:Int),f.name,f.kind.signs,f.kind.base,f.kind.name,f.given] 97)).rangeAt w2 0 [.int .u8 (c.toNat:Int),nm,U 7,.string ⟨(c::r).toArray⟩]) /\
         (L 5=false->(W.alloc (.cells #[(f.tag:Int),f.name,f.kind.signs,f.kind.base,f.kind.name,f.given] 97)).rangeAt w4 0 [(f.tag:Int),f.name,f.kind.signs,f.kind.base,f.kind.name,f.given])/\(L 7=false->(W.alloc (.cells #[(f.tag:Int),f.name,f.kind.signs,f.kind.base,f.kind.name,f.given] 97)).ownsRow w3 97 6 (.slice A acc.length cA) acc.length (acc.flatMap Tq))/\(L 7=true->(W.alloc (.cells #[(f.tag:Int),f.name,f.kind.signs,f.kind.base,f.kind.name,f.given] 97)).ownsRow w3 97 6 (U 7) (acc.length+1) (acc.flatMap Tq++Tq f))
         from⟨fun j hj=>by rw[World.cell?_alloc_old _ _ _ (show g≠W.heap.size by omega)];exact r3 j hj,⟨au r4.1 _,r4.2.belowAt (show w2.heap.size<W.heap.size by omega) ((Aq _ _).alloc (Al _) _)⟩,fun h=>World.rangeAt_alloc (r5 h) _,fun h=>World.rangeAt_alloc (r6 h) _,fun h=>World.rangeAt_alloc (r7 h) _,fun h=>(r8 h).alloc _,fun h=>(r9 h).alloc _⟩)
        clear r1 r3 r4 r5 r6 r7 r8 r9 r0;go_simp;refine hK (.slice (W,0) 1 1) _ _ Ae Ae ⟨R1.o.alloc R1.o.size _,by simp;omega,HRR.o.1,HRR.o.2.1,HRR.o.2.2.1,HRR.o.2.2.2.1,HRR.o.2.2.2.2.1,HRR.o.2.2.2.2.2.1,HRR.o.2.2.2.2.2.2,fun _ _=>⟨W.heap.size,rfl,HF5.o⟩⟩ (by simp[Act.put,u5])
       ·obtain⟨r1,r2,r3,r4,r5,r6,r7,r8,r9,r0⟩:=HR.o;have h10:=(Ct Hdep.o 10 7 rfl hL)
        have h7:=r8 hL;obtain⟨q,e1,e2⟩:=r0 hpre.2 hL;obtain⟨i0,hi,hz0,hz1,hz2'⟩:=info_parts Tryz.infoIf;rw[if_pos dm];refine wp_append_own W (.tmp 102) (.tmp 104) 93 rfl w3 97 i0 (.agg #[.int .i64 0,a6,a6,a6,a6,a6]) 6 88 underlying93 hi hz0 hz1 hz2' rfl aL (.slice A acc.length cA) acc.length (acc.flatMap Tq) hpre.1.2 h7 ⟨q,0,none⟩ 1 1 (Tq f) e1 (by simp[Tq]) ?_ (fun y hy=>Qns [f] y (by simpa using hy)) bc aI r2 ?_
        ·intro i x hx;rw[Qhw];have:=e2 i x hx;simpa using this
        intro v' w' hown' hgr _;have hbw:Below w3 W w':=(Aq _ _).grown hgr r2 (fun k hk=>(h7.lt k hk).1);refine hK v' w' _ Ae Ae ⟨r1.trans (hbw.mono hz6),ad r2 hbw.size,fun j hj=>(hbw.cell (p:=⟨g,j,none⟩) (show g<w3.heap.size by omega)).trans (r3 j hj),⟨An r4.1 hz3 hbw,r4.2.belowAt hz3 hbw⟩,fun h=>Ar (r5 h) hz3 hbw,fun h=>absurd h10 (by rw[show L 10=true from h];decide),fun h=>absurd hpre.2 (by rw[Ct Hdep.o 6 5 rfl h];decide),fun h=>by simp at h,fun _=>hown',fun _ h=>by simp at h⟩ rfl
       ·have u0:=hpre.1.2;go_simp;exact hK w2.heap.size _ _ rfl Ae HR.o aJ
       ·have u8:=hpre.2;go_simp;exact hK (w2,2) _ _ rfl Ae HR.o aJ
       ·obtain⟨r1,r2,r3,r4,r5,r6,r7,r8,r9,r0⟩:=HR.o;have R1:=Aa r1;have l7:L 7=true:=by first|exact hpre.2.1|exact hpre.2.1.1
        have h5:=r5 hL;have h9:=r9 l7;obtain⟨A7,n7,c7,e7⟩:=Qbu h9;rw[e7]at h9;obtain⟨y2,c2⟩:=Option.isSome_iff_exists.1 (r4.1 2 aL).1;rw[am]at c2;have z2:W.frozen? (w2,2)=false:=by simpa using(r4.1 2 aL).2
        have hT10:=@Aa ((W.setCell ⟨w2.heap.size,2,none⟩ (.slice A7 n7 c7)).rangeAt w2 0 [.int .u8 (c.toNat:Int),nm,(.slice A7 n7 c7),.string ⟨(c::r).toArray⟩]) (Cm [.int .u8 (c.toNat:Int),nm] [.slice A acc.length cA] [.string ⟨(c::r).toArray⟩] [.slice A7 n7 c7] h5 rfl);have hK10:=@Aa ((W.setCell ⟨w2.heap.size,2,none⟩ (.slice A7 n7 c7)).there w2 0 4) (ai r4.1 w2 2 [.slice A7 n7 c7]);have hBk10:=Aa (r4.2.set (o:=2) (.slice A7 n7 c7))
        have hP10:=Aa (show ∀j (hj:j<ps.length),(W.setCell ⟨w2.heap.size,2,none⟩ (.slice A7 n7 c7)).cell? ⟨g,j,none⟩=some (.string ⟨ps[j].toArray⟩)from fun j hj=>by
         rw[World.cell?_setCell_other _ _ _ _ ck];exact r3 j hj)
        have hO10:=@Aa ((W.setCell ⟨w2.heap.size,2,none⟩ (.slice A7 n7 c7)).ownsRow w3 97 6 (.slice A7 n7 c7) (acc.length+1) (acc.flatMap Tq++Tq f)) (h9.kept (Q8 W _ (.slice A7 n7 c7)) (.inr (fun e=>by have:=(h9.lt _ e).1;simp at this;omega)));have hz10:w3.heap.size<=(W.setCell ⟨w2.heap.size,2,none⟩ (.slice A7 n7 c7)).heap.size:=by simpa using r2
        have hB10:=@Aa (Below w w (W.setCell ⟨w2.heap.size,2,none⟩ (.slice A7 n7 c7))) (r1.setCell hz2 _);clear r1 r3 r4 r5 r6 r7 r8 r9 r0 h5 h9;go_simp;exact hK undef _ _ Ae Ae ⟨hB10.o,hz10,hP10.o,⟨hK10.o,hBk10.o⟩,fun h=>by simp at h,fun _=>by show World.rangeAt _ _ _ [_,_,U 7,_];rw[e7];exact hT10.o,fun h=>absurd l7 (by rw[(Ct Hdep.o 7 6 rfl (Ct Hdep.o 6 5 rfl h))];decide),fun h=>absurd l7 (by rw[show L 7=false from h];decide),fun _=>by show World.ownsRow _ _ _ _ (U 7) _ _;rw[e7];exact hO10.o,fun _ h=>absurd l7 (by rw[show L 7=false from h];decide)⟩ (by simp[Act.put,hpre,e7])
      rintro L U W hL hφ hR;obtain⟨hbW,hzW,hprW,hKW,_,hTW,_,_,hoW,_⟩:=hR;have hTW':=hTW (hL 10 aL);have hoW':=hoW (hL 7 aL);generalize U 7=V at hTW' hoW';have HbW:=Aa hbW;have HprW:=Aa hprW;have HKW:=Aa hKW.1;have HBW:=Aa hKW.2;have HTW:=Aa hTW';have HoW:=Aa hoW';clear hL hφ hbW hprW hKW hTW hoW hTW' hoW';go_wp2_with fail;go_roundw
      case rel=>exact⟨k+1,acc++[f],V,by go_num,by omega,by simp;omega,Hft4.o,by rw[ah,List.flatMap_append,show [f].flatMap Tq=Tq f from by simp];exact HoW.o,HbW.o,hzW,HprW.o,HTW.o,HKW.o,HBW.o⟩
      case measure=>simp[intOf];omega
  ·have i2:¬(k:Int)<(ps.length:Int):=aI;have Hfin:=Aa (show Fe (c::r)=some ⟨c,nm,acc⟩by rw[hft.o,List.drop_of_length_le aI];rfl);go_wp2_with fail;go_ret2;refine Fs.yes Hfin.o (b:=w2.heap.size) (fv:=.slice A acc.length cA) rfl hz2 ?_ (fun k hk=>by have:=(hown.o.lt k hk).1;omega) hbr.o;refine⟨show w2.heap.size<wo.heap.size by omega,hB.o,by simpa using Ab hT.o 0 rfl,by simpa using Ab hT.o 1 rfl,by simpa using Ab hT.o 2 rfl,?_,A,cA,rfl,ha8,Hrow.o⟩;have hB:=(Ga.1 Hfin.o).2;show _=some (Value.string ⟨(tyB ⟨c,nm,acc⟩).toArray⟩);rw[hB];simpa using Ab hT.o 3 rfl
theorem Qc8(s:List UInt8)(w:World)(hs:s.length<=4000000):
  Calls prog 120 #[s] w (Fs (Fe s) w):=by
 cases s with
 |nil=>exact Qig w
 |cons c r=>
  simp at hs;by_cases hc:Ej c
  ·by_cases h:(Dj 61 r).2.2=false\/Bf (Dj 61 r).1=false\/(Dj 61 r).2.1=[]
   ·exact Qg8 c r w aI hc h
   simp only[not_or]at h;exact Qf7 c r (Dj 61 r).1 (Dj 61 r).2.1 w aI hc (Prod.ext rfl (Prod.ext rfl (by simpa using h.1))) (by simpa using h.2.1) h.2.2
  exact Qhc c r w aI hc
def Qpa(w:World)(p:Value)(xs:List PT):Prop:=
 ∃b mb,p=.pointer (some ⟨b,0,none⟩)/\b<w.heap.size/\w.cell? ⟨b,1,none⟩=some (.map (some mb))/\Pv w mb xs
theorem To.map{w:World}{p:Value}{xs:List PT}(h:To w p xs):Qpa w p xs:=by
 obtain⟨b,A,c,mb,e,h0,h1,h2,h3,h4,_⟩:=h
 exact⟨b,mb,e,h0,h2,h4⟩
theorem Fw{w:World}{mb:Nat}{xs:List PT}(h:Pv w mb xs)(n:Cy)(hn:n.length<=9223372036854775807):
  (Instr.lookup 133 (.map (some mb)) (.string ⟨n.toArray⟩) false).run prog w=.ok (Rb (Fh xs n)) w:=
 D5.lookup h Tryz.keyStr underlying133 (Tryz.zeroPtr w) (Qhg hn)
theorem Pi{k:Kd}(h:Cw k):k.name.length<=3:=by
 rcases h.2.1 with⟨_,hn⟩|⟨_,hn⟩
 ·exact(Fc.1 hn).2.1
 rw[hn];simp
theorem To.tys{w:World}{p:Value}{xs:List PT}(h:To w p xs):∀x∈xs,Tc w x:=by
 obtain⟨_,_,_,_,_,_,_,_,_,_,h,_⟩:=h
 exact h
theorem Qe1(p:Value)(xs:List PT)(k:Kd)(w:World)(h:Qpa w p xs)(hk:k.name.length<=100):
  Calls prog 82 #[p,Fi k] w fun e w'=>e=.returned (.bool (decide (Bu (Ah xs) k)))/\Below w w w':=by
 obtain⟨b,mb,rfl,hb,hm,hn⟩:=h;have Hn:=Aa hn;clear hn;unfold Fi;generalize hd:(.cells #[k.signs,k.base,k.name] 60:Obj)=ob;have hl0:w.heap.size<(w.alloc ob).heap.size:=aK;have x1:(w.alloc ob).cell? (w,1)=k.base:=by rw[<-hd];simp
 have x2:(w.alloc ob).cell? (w,2)=k.name:=by rw[<-hd];simp
 have x3:(w.alloc ob).cell? (b,1)=some (.map (some mb)):=by rw[World.cell?_alloc_old _ _ _ (show b≠w.heap.size by omega)];exact hm
 have hlook:∀q,(Instr.lookup 133 (.map (some mb)) k.name false).run prog ((w.alloc ob).drewN q)=.ok (Rb (Fh xs k.name)) ((w.alloc ob).drewN q):=fun q=>Fw (D5.below (Hn.o.alloc _) (below_drewN (Aq _ _) q)) k.name aI;have Hd:=Aa hd
 have Hr:=Aa (show decide (Bu (Ah xs) k)=(decide (k.base≠[64]) || (Fh xs k.name).isSome)by
  have e:Bu (Ah xs) k↔(k.base=[64]->(Fh xs k.name).isSome=true):=by unfold Bu;rw[Jr];simp
  by_cases h:k.base=[64]
  ·cases hf:Fh xs k.name with
   |none=>rw[aD (fun h2=>by have:=e.1 h2 h;rw[hf]at this;cases this)];simp[h]
   |some x=>rw[aE (e.2 (fun _=>by rw[hf];rfl))];simp
  rw[aE (e.2 (fun h2=>absurd h2 h))];simp[h])
 have Hb:=@Aa (Below w w (w.alloc ob)) ((Aq _ _).alloc (Al _) _);go_enter func82,ntmps82;rcases Decidable.em (k.base=[64])with h64|h64
 ·have t1:(k.base != [64])=false:=ey;have H64:=Aa h64;clear h64 hd hl0;go_wp2_with fail;rw[Hd.o];cases hf:Fh xs k.name with
  |none=>
   rw[hf]at hlook;have Hf:=Aa hf;clear hf;unfold Rb at hlook;refine Bm [5,6,7,8,9,10,11,12,13,14,15,16,17,4] aN aN aN (fun u=>by dsimp only[Bl,Bk,List.set,am,Nat.reduceAdd])
    (fun i v W=>match i with|0=>v=(w,1)|1=>v=k.base|2=>v=.bool false|3=>v=.bool false|4=>v=b|5=>v=b|6=>v=(b,1)|7=>v=.map (some mb)|8=>v=(w,2)|9=>v=k.name|10=>v=.pointer none|11=>v=.bool false|12=>v=.bool false|13=>v=.bool false|_=>True) (fun L U W=>∃q,W=(w.alloc ob).drewN q) (fun _ _=>True) (fun _ _ _ _ _ h=>h) ⟨1,rfl⟩ ?_ ?_
   ·exact fZ
   rintro L U W hL hφ ⟨q,rfl⟩;have e13:U 13=.bool false:=hφ 13 aL;simp only[e13];go_wp2_with fail;go_ret;exact⟨Er (Db (by rw[Hr.o,Hf.o];simp[H64.o])),below_drewN Hb.o _⟩
  |some x=>
   rw[hf]at hlook;have Hf:=Aa hf;clear hf;unfold Rb PT.ptr at hlook;refine Bm [5,6,7,8,9,10,11,12,13,14,15,16,17,4] aN aN aN (fun u=>by dsimp only[Bl,Bk,List.set,am,Nat.reduceAdd])
    (fun i v W=>match i with|0=>v=(w,1)|1=>v=k.base|2=>v=.bool false|3=>v=.bool false|4=>v=b|5=>v=b|6=>v=(b,1)|7=>v=.map (some mb)|8=>v=(w,2)|9=>v=k.name|10=>v=x.blk|11=>v=.bool true|12=>v=.bool true|13=>v=.bool true|_=>True) (fun L U W=>∃q,W=(w.alloc ob).drewN q) (fun _ _=>True) (fun _ _ _ _ _ h=>h) ⟨1,rfl⟩ ?_ ?_
   ·exact fZ
   rintro L U W hL hφ ⟨q,rfl⟩;have e13:U 13=.bool true:=hφ 13 aL;simp only[e13];go_wp2_with fail;go_ret;exact⟨Er (Db (by rw[Hr.o,Hf.o];simp)),below_drewN Hb.o _⟩
 have t1:(k.base != [64])=true:=ey;have H64:=Aa h64;clear h64 hd hl0;go_wp2_with fail;rw[Hd.o];refine Bm [5,6,7,8,9,10,11,12,13,14,15,16,17,4] aN aN aN (fun u=>by dsimp only[Bl,Bk,List.set,am,Nat.reduceAdd])
  (fun i v W=>match i with|0=>v=(w,1)|1=>v=k.base|2=>v=.bool true|3=>v=.bool true|12=>v=.bool true|13=>v=.bool true|_=>True) (fun L U W=>∃q,W=(w.alloc ob).drewN q) (fun _ _=>True) (fun _ _ _ _ _ h=>h) ⟨1,rfl⟩ ?_ ?_
 ·exact fZ
 rintro L U W hL hφ ⟨q,rfl⟩;have e13:U 13=.bool true:=hφ 13 aL;simp only[e13];go_wp2_with fail;go_ret;exact⟨Er (Db (by rw[Hr.o];simp[H64.o])),below_drewN Hb.o _⟩
theorem Vq{S:List Ty}{n:Nat}{t:Ty}(h:Gb S t=none):By S (n+1) t=true:=by rw[By,h]
theorem Qm3{S:List Ty}{n:Nat}{t u:Ty}(h:Gb S t=some u):By S (n+1) t=By S n u:=by rw[By,h]
theorem Qid{S:List Ty}{t:Ty}(h:t.sort≠85):Gb S t=none:=if_neg h
theorem Qio{S:List Ty}{t:Ty}{f:Fd}{fs:List Fd}(h:t.sort=85)(hf:t.fields=f::fs):Gb S t=if f.kind.signs=[]/\f.kind.base=[64]then B9 S f.kind.name else none:=by
 unfold Gb;rw[if_pos h,hf]
theorem Qei{t:Ty}(h:Ek t)(hs:t.sort=85):∃f fs,t.fields=f::fs/\Cw f.kind:=by
 obtain⟨_,_,h3,_,h5⟩:=h;cases hf:t.fields with
 |nil=>have:=h5 hf;rw[hs]at this;exact absurd this aL
 |cons f fs=>exact⟨f,fs,rfl,((h3.1 f dF).2.2.2.2 dJ).1⟩
theorem Qi7(p:Value)(xs:List PT)(x:PT)(w:World)(h:Qpa w p xs)(hT:∀y∈xs,Tc w y)(hok:∀y∈xs,Ek y.ty)(hS:G1 (Ah xs))(hx:x∈xs):
  Calls prog 121 #[p,x.ptr] w fun e w'=>e=.returned (.bool (By (Ah xs) 9 x.ty))/\Below w w w':=by
 have Hmap:=Aa h;obtain⟨b,mb,rfl,hb,hm,hn⟩:=h;have HT:=Aa hT;have Hok:=Aa hok;have HS:=Aa hS;have Hx:=Aa hx;have Hn:=Aa hn;have Hm:=Aa hm;clear hT hok hS hx hn hm;unfold PT.ptr;go_enter func121,ntmps121;go_wp2_with fail;go_loopw [1,6] (fun t i wr=>∃(n:Nat) (y:PT),i=.int .i64 n/\n<=9/\t=y.blk/\Hid (y∈xs)/\Hid (By (Ah xs) 9 x.ty=By (Ah xs) (9 - n) y.ty)/\Hid (Below w w wr)) (fun _ i _=>9 - (intOf i).toNat)
 case atStart=>exact⟨0,x,rfl,by omega,rfl,Hx.o,rfl,Aq _ _⟩
 case round=>
  obtain⟨n,y,rfl,hn9,rfl,hy,he,hbr⟩:=hrel;have n1:(0:Int)<=(n:Int):=aI;obtain⟨hyb,_,y0,y1,y2,y3,A,cA,hyf,hl8,hrow⟩:=(HT.o y hy.o).below hbr.o;have Hrow:=Aa hrow;have hzw:=hbr.o.size;rw[hyf]at y2;clear hrow hyf y1 y3;by_cases hlt:n<9
  ·have n2:(n:Int)<9:=aI;have he2:=Aa (show By (Ah xs) 9 x.ty=By (Ah xs) (8 - n+1) y.ty by rw[he.o,show 9 - n=8 - n+1 by omega]);by_cases h85:y.ty.sort=85
   ·have t1:((y.ty.sort.toNat:Int) != 85)=false:=My (d:=85) h85;obtain⟨f,fs,hf,hkd⟩:=Qei (Hok.o y hy.o) h85;have Hnext:=Aa (Qio (S:=Ah xs) h85 hf);have hpos:0<y.ty.fields.length:=dF;obtain⟨bA,oA,rfl,hbA,hrg⟩:=Qag.range Hrow.o hpos;have hf0:y.ty.fields[0]=f:=by simp[hf]
    rw[hf0,Nat.zero_mul,Nat.add_zero]at hrg;have Hrg:=@Aa (wr.rangeAt bA (oA+2) [f.kind.signs,f.kind.base,f.kind.name]) (Qca [(f.tag:Int),f.name] _ [f.given] hrg);have hp1:(0:Int)<(y.ty.fields.length:Int):=aI;have Href:=Aa (HS.o y.ty (aq (f:=(·.ty)) hy.o) dA f dF);have Hkd:=Aa hkd;have hnl:=Pi hkd;clear h85 hf hf0 hrg hkd;have hbb:=Aa ((Hm.o));by_cases hsg:f.kind.signs=[]
    ·have s1:(f.kind.signs != [])=false:=cI;have s2:f.kind.signs.isEmpty=true:=cI;have s4:(!f.kind.signs.isEmpty)=false:=cI;by_cases h64:f.kind.base=[64]
     ·have s3:(f.kind.base == [64])=true:=ey;have s5:(f.kind.base != [64])=false:=ey;have hsome:=Href.o h64;rw[Jr]at hsome;cases hz:Fh xs f.kind.name with
      |none=>rw[hz]at hsome;cases hsome
      |some z=>
       have Hz:=Aa (show By (Ah xs) 9 x.ty=By (Ah xs) (8 - n) z.ty from by
        rw[he2.o];exact Qm3 (by rw[Hnext.o,if_pos ⟨hsg,h64⟩,Jr,hz];rfl))
       have Hzm:=Aa (Gy hz).1;generalize hd:(.cells #[f.kind.signs,f.kind.base,f.kind.name] 60:Obj)=ob;have x2:(wr.alloc ob).cell? (wr,2)=f.kind.name:=by rw[<-hd];simp
       have x3:(wr.alloc ob).cell? (b,1)=some (.map (some mb)):=by
        rw[World.cell?_alloc_old _ _ _ (show b≠wr.heap.size by omega)];exact(hbr.o.cell (p:=⟨b,1,none⟩) hb).trans Hm.o
       have hlook:∀q,(Instr.lookup 133 (.map (some mb)) f.kind.name false).run prog ((wr.alloc ob).drewN q)=.ok z.blk ((wr.alloc ob).drewN q):=fun q=>by
        have:=Fw (D5.below (D5.alloc (D5.below Hn.o hbr.o) ob) (below_drewN (Aq _ _) q)) f.kind.name aI;rw[hz]at this;exact this
       have Hbb:=@Aa (Below w w (wr.alloc ob)) (hbr.o.alloc hzw _);have Hd:=Aa hd;clear hd hsg h64 hz hsome;go_wp2_with ((with_reducible refine wpList_load_mid (op:=⟨_,.load 60 _,_,_,_,none⟩) rfl 60 _ rfl bA (oA+2) ?_ _ _ Hrg.o underlying60 ?_ ?_ ?_);rfl;rfl;kernel_rfl)
       rw[Hd.o];refine Bm [28,29,30,31,32,33,34,1] aN aN aN (fun u=>by dsimp only[Bl,Bk,List.set,am,Nat.reduceAdd])
        (fun i v W=>match i with|0=>v=b|1=>v=b|2=>v=(b,1)|3=>v=.map (some mb)|4=>v=(wr,2)|5=>v=f.kind.name|6=>v=z.blk|7=>v=z.blk|_=>True) (fun L U W=>∃q,W=(wr.alloc ob).drewN q) (fun _ _=>True) (fun _ _ _ _ _ h=>h) ⟨1,rfl⟩ ?_ ?_
       ·repeat (first|exact Bb.nil|(refine Bb.cons ?_ ?_;rotate_left))
        all_goals
         rintro L U W hL hpre ⟨q,rfl⟩ hun hdep K hK;have hlq:=hlook q;clear hun hdep;first|(simp[Region.binds]at hpre;done)|simp[Region.binds]at hpre|clear hpre
         go_simp;first|exact hK _ _ _ rfl Ae ⟨q,rfl⟩ rfl|exact hK _ _ _ rfl Ae ⟨q,rfl⟩ aJ
       rintro L U W hL hφ ⟨q,rfl⟩;have e7:U 7=z.blk:=hφ 7 aL;simp only[e7];clear hφ hL hlook x2 x3;go_wp2_with fail;go_roundw
       case rel=>exact⟨n+1,z,by go_num,by omega,rfl,Hzm.o,by show _=By (Ah xs) (9 - (n+1)) z.ty;rw[Hz.o,show 9 - (n+1)=8 - n by omega],below_drewN Hbb.o _⟩
       case measure=>simp[intOf];omega
     have s3:(f.kind.base == [64])=false:=ey;have s5:(f.kind.base != [64])=true:=ey;have Hend:=Aa (he2.o.trans (Vq (by rw[Hnext.o,if_neg (fun h=>h64 h.2)])));clear hsg h64;go_wp2_with ((with_reducible refine wpList_load_mid (op:=⟨_,.load 60 _,_,_,_,none⟩) rfl 60 _ rfl bA (oA+2) ?_ _ _ Hrg.o underlying60 ?_ ?_ ?_);rfl;rfl;kernel_rfl)
     exact j5
    have s1:(f.kind.signs != [])=true:=cI;have s2:f.kind.signs.isEmpty=false:=cI;have s4:(!f.kind.signs.isEmpty)=true:=cI;have Hend:=Aa (he2.o.trans (Vq (by rw[Hnext.o,if_neg (fun h=>hsg h.1)])));clear hsg;go_wp2_with ((with_reducible refine wpList_load_mid (op:=⟨_,.load 60 _,_,_,_,none⟩) rfl 60 _ rfl bA (oA+2) ?_ _ _ Hrg.o underlying60 ?_ ?_ ?_);rfl;rfl;kernel_rfl)
    exact j5
   have t1:((y.ty.sort.toNat:Int) != 85)=true:=Qm (d:=85) h85;have Hend:=Aa (he2.o.trans (Vq (Qid h85)));clear h85;go_wp2_with fail;go_ret;exact⟨Er (Db Hend.o.symm),hbr.o⟩
  ·obtain rfl:n=9:=aI;have Hend:=@Aa (By (Ah xs) 9 x.ty=false) he.o;go_wp2_with fail;go_ret;exact⟨Er (Db Hend.o.symm),hbr.o⟩
theorem Tc.kept{w w':World}{x:PT}{row:Option Nat}(h:Tc w x)(hg:w.grownBy w' row)(h1:row≠some x.blk)(h2:∀k,0<x.ty.fields.length->x.fv.ownBlock=some k->row≠some k):Tc w' x:=by
 obtain⟨h0,hk,a0,a1,a2,a3,A,c,e,hl,hr⟩:=h;have hne:some x.blk≠row:=fun e=>h1 e.symm;refine⟨ac h0 hg.size,hk.grown h0 hg hne,hg.cell a0 hne,hg.cell a1 hne,hg.cell a2 hne,hg.cell a3 hne,A,c,e,hl,hr.1,hr.2.1,fun hn=>?_⟩;obtain⟨b,off,eA,hb,hc⟩:=hr.2.2 hn;have hne2:some b≠row:=fun e2=>h2 b aI (by rw[e,eA];rfl) e2.symm;exact⟨b,off,eA,ac hb hg.size,fun j u hu=>hg.cell (hc j u hu) hne2⟩
theorem Tc.fvlt{w:World}{x:PT}(h:Tc w x){k:Nat}(hn:0<x.ty.fields.length)(hk:x.fv.ownBlock=some k):k<w.heap.size:=by
 obtain⟨_,_,_,_,_,_,A,c,e,_,hr⟩:=h;obtain⟨b,off,eA,hb,_⟩:=hr.2.2 aI;rw[e,eA]at hk;simp only[Value.ownBlock,aj]at hk;omega
def Qga(lo:Nat)(x:PT):Prop:=lo<=x.blk/\∀k,0<x.ty.fields.length->x.fv.ownBlock=some k->lo<=k
def Qkj(v:Value)(x:PT):Prop:=v.ownBlock≠some x.blk/\∀k,0<x.ty.fields.length->x.fv.ownBlock=some k->v.ownBlock≠some k
def Zf(w:World)(lo:Nat)(v:Value)(xs:List PT):Prop:=(∀x∈xs,Tc w x/\Qga lo x/\Qkj v x)/\xs.Pairwise fun x y=>x.blk≠y.blk
theorem Zf.far{w w':World}{lo b:Nat}{v:Value}{xs:List PT}(h:Zf w lo v xs)(hg:w.grownBy w' (some b))(hb:b<lo):Zf w' lo v xs:=
 ⟨fun x hx=>by
  obtain⟨h1,h2,h3⟩:=h.1 x hx;refine⟨h1.kept hg (fun e=>?_) (fun k hn hk e=>?_),h2,h3⟩
  ·injection e with e;have:=h2.1;omega
  injection e with e;have:=h2.2 k hn hk;omega,h.2⟩
theorem Zf.below{w w':World}{lo:Nat}{v:Value}{xs:List PT}(h:Zf w lo v xs)(hb:Below w w w'):Zf w' lo v xs:=
 ⟨fun x hx=>⟨(h.1 x hx).1.below hb,(h.1 x hx).2⟩,h.2⟩
theorem Zf.push{wo w3 w5:World}{lo base n k1:Nat}{e:TypeId}{v v5:Value}{cs:List Value}{xs:List PT}{x:PT}(h:Zf wo lo v xs)(hb:Below wo wo w3)(hown:wo.ownsRow base e k1 v n cs)(hx:Tc w3 x)(hxb:wo.heap.size<=x.blk)
  (hxf:∀k,x.fv.ownBlock=some k->wo.heap.size<=k) (hlo:lo<=wo.heap.size) (hg:w3.grownBy w5 v.ownBlock) (hwh:v5.ownBlock=v.ownBlock\/∃k,v5.ownBlock=some k/\w3.heap.size<=k):Zf w5 lo v5 (xs++[x]):=by
 have hall:∀y∈xs++[x],Tc w3 y/\Qga lo y/\Qkj v y:=by
  intro y hy;rcases af.1 hy with hy|hy
  ·obtain⟨h1,h2⟩:=h.1 y hy;exact⟨h1.below hb,h2⟩
  simp at hy;subst hy;refine⟨hx,⟨by omega,fun k _ hk=>by have:=hxf k hk;omega⟩,fun e=>?_,fun k _ hk e=>?_⟩
  ·have:=(hown.lt _ e).2;omega
  have:=(hown.lt _ e).2;have:=hxf k hk;omega
 refine⟨fun y hy=>?_,?_⟩
 ·obtain⟨h1,h2,h3⟩:=hall y hy;refine⟨h1.kept hg h3.1 h3.2,h2,?_⟩;rcases hwh with hwh|⟨k,hwh,hk⟩
  ·unfold Qkj;rw[hwh];exact h3
  refine⟨fun e=>?_,fun k2 hn hk2 e=>?_⟩
  ·rw[hwh]at e;injection e with e;have:=h1.1;omega
  rw[hwh]at e;injection e with e;have:=h1.fvlt hn hk2;omega
 rw[List.pairwise_append];refine⟨h.2,by simp,fun y hy z hz=>?_⟩;simp at hz;subst hz;have:=(h.1 y hy).1.1;omega
def Rx(lo:Nat)(w:World)(p:Value)(xs:List PT):Prop:=
 ∃b A c mb,p=.pointer (some ⟨b,0,none⟩)/\b<w.heap.size/\w.cell? ⟨b,0,none⟩=some (.slice A xs.length c)/\w.cell? ⟨b,1,none⟩=some (.map (some mb))/\Ca w A xs.length (xs.map (·.ptr))/\Pv w mb xs/\(∀x∈xs,Tc w x)/\(xs.Pairwise fun x y=>x.blk≠y.blk) /\
  lo<=b/\lo<=mb/\(∀g o,0<xs.length->A=some ⟨g,o,none⟩->lo<=g)/\∀x∈xs,Qga lo x
theorem Rx.isc{lo:Nat}{w:World}{p:Value}{xs:List PT}(h:Rx lo w p xs):To w p xs:=by
 obtain⟨b,A,c,mb,h0,h1,h2,h3,h4,h5,h6,h7,_⟩:=h;exact⟨b,A,c,mb,h0,h1,h2,h3,h4,h5,h6,h7⟩
theorem Rx.below{lo:Nat}{w w':World}{p:Value}{xs:List PT}(h:Rx lo w p xs)(hb:Below w w w'):Rx lo w' p xs:=by
 obtain⟨b,A,c,mb,e,h0,h1,h2,h3,h4,h5,h6,h7⟩:=h;obtain⟨hc,_,hz⟩:=Ci hb;exact⟨b,A,c,mb,e,hz _ h0,(hc _ _ h0).trans h1,(hc _ _ h0).trans h2,h3.below hb,D5.below h4 hb,fun x hx=>(h5 x hx).below hb,h6,h7⟩
theorem Rx.far{lo b0:Nat}{w w':World}{p:Value}{xs:List PT}(h:Rx lo w p xs)(hg:w.grownBy w' (some b0))(hb0:b0<lo):Rx lo w' p xs:=by
 obtain⟨b,A,c,mb,e,h0,h1,h2,h3,h4,h5,h6,l1,l2,l3,l4⟩:=h;have hne:some b≠some b0:=ck;refine⟨b,A,c,mb,e,ac h0 hg.size,hg.cell h1 hne,hg.cell h2 hne,⟨h3.1,h3.2.1,fun hn=>?_⟩,D5.kept h4 hg ck,fun x hx=>(h5 x hx).kept hg (fun e=>?_) (fun k hn hk e=>?_),h6,l1,l2,l3,l4⟩
 ·obtain⟨g,o,eA,hgl,hc⟩:=h3.2.2 hn;have:=l3 g o hn eA;exact⟨g,o,eA,ac hgl hg.size,fun j u hu=>hg.cell (hc j u hu) (by intro e;injection e with e;simp at e;omega)⟩
 ·injection e with e;have:=(l4 x hx).1;omega
 injection e with e;have:=(l4 x hx).2 k hn hk;omega
def Jb(o:Option (List Ty))(w:World)(e:Ending)(w':World):Prop:=
 (match o with
  |some S=>∃p xs,Ah xs=S/\e=.returned (.tuple #[p,.bool true])/\Rx w.heap.size w' p xs
  |none=>∃p:Option Addr,e=.returned (.tuple #[.pointer p,.bool false]))/\Below w w w'
theorem Jb.no{w w':World}{e:Ending}{o:Option (List Ty)}(ho:o=none){p:Option Addr}(he:e=.returned (.tuple #[.pointer p,.bool false]))(hb:Below w w w'):Jb o w e w':=by
 rw[ho];exact⟨⟨p,he⟩,hb⟩
theorem Jb.yes{w w':World}{e:Ending}{o:Option (List Ty)}{p:Value}{xs:List PT}(ho:o=some (Ah xs))(he:e=.returned (.tuple #[p,.bool true]))(hs:Rx w.heap.size w' p xs)(hb:Below w w w'):Jb o w e w':=by
 rw[ho];exact⟨⟨p,xs,rfl,he,hs⟩,hb⟩
theorem Qdw{xs:List PT}{x:PT}(h:Fh xs x.ty.name=none)(l:Lit)(hl:WideAt.IsKeyLit l):(if l.sameKey (.string x.ty.name)=true then x.ptr else Qap xs l)=Qap (xs++[x]) l:=by
 by_cases e:l=.string x.ty.name
 ·subst e;rw[if_pos (WideAt.sameKey_self hl)];unfold Fh at h;show x.ptr=Rb ((xs++[x]).find? fun y=>decide (y.ty.name=x.ty.name));rw[List.find?_append,h];simp[Rb]
 rw[if_neg (fun hh=>e ((WideAt.sameKey_iff (show WideAt.IsKeyLit (.string x.ty.name)from Ae)).1 hh))];cases l with
 |string s=>
  have hne:¬x.ty.name=s:=fun h2=>e (by rw[h2]);unfold Qap Fh;simp only;rw[List.find?_append];simp[hne]
 |_=>rfl
theorem Zp{xs:List PT}{n:Cy}:Fh xs n=none↔(Ah xs).any (fun u=>decide (u.name=n))=false:=by
 unfold Fh Ah;rw[List.find?_eq_none,List.any_map];simp
theorem Tryz.infoPt:(prog.info? 90).map (fun i=>(i.zero,i.size,i.bytes))=some (some (.pointer none),1,8):=aN
theorem Qcp(s:List UInt8)(w:World)(hs:s.length<=4000000)(h:400<s.length):
  Calls prog 61 #[s] w (Jb (Ck s) w):=by
 have HF:=@Aa (Ck s=none) (if_pos h);have t1:(400:Int)<(s.length:Int):=aI;go_enter func61,ntmps61;go_wp2_with fail;go_ret2;exact Jb.no HF.o rfl (Aq _ _)
end
end Go.Proofs.YtmmhmlmfhpfgbaaGreatDoor
