/- Texts joined. Conditions: as each theorem names them. -/
import Derived.Test.YtpjijpcemejlnaaGreatDoorR24
set_option maxRecDepth 100000
set_option maxHeartbeats 32000000
set_option linter.unusedVariables false
set_option linter.unusedSimpArgs false
namespace Go.Proofs.YtpjijpcemejlnaaGreatDoor
open Go.RowKit Go.Proofs.Tryz
theorem Tryz.xtraJ:Builder.Extra prog Tryz.lays156_ren where
 sizeBuilder:=aP
 liesBuilder:=aP
 t5:=underlying5
 a5:=isAgg5
 z5:=sizeOf5
 v5:=zeroValue5
 infoByte:=aP
 cellsByte:=aP
 sizeByte:=aP
 neB5:=aL
theorem Zw:∀ps:List (List UInt8),Lib.join ps [44]=Aw 44 ps
 |[]=>rfl
 |[p]=>by rw[Lib.join_one];rfl
 |p::q::r=>by
  have ih:=Zw (q::r);rw[Cz 44 p aN,<-ih,Lib.join_cons p,Lib.join_cons q];simp[Lib.joinTail]
theorem Qfw(ps:List (List UInt8)):ps.length<=Dh ps:=by
 induction ps with
 |nil=>exact Ao _
 |cons p ps ih=>rw[D8,List.length_cons];omega
theorem Qlk(A:Option Addr)(c:Nat)(ps:List (List UInt8))(w:World)(hr:Bx w A ps.length (B6 ps))(hcp:ps.length<=c)(hl:Dh ps<=2000000):
  Calls prog 45 #[.slice A ps.length c,.string ⟨#[44]⟩] w fun e w'=>e=.returned (.string ⟨(Aw 44 ps).toArray⟩)/\Below w w w':=by
 by_cases h0:ps.length=0
 ·have e0:ps=[]:=List.length_eq_zero_iff.1 h0;subst e0;exact(Any.strings_Join_none Tryz.lays156 Tryz.xtraJ A c ⟨#[44]⟩ w).mono fun e w' ⟨he,hw⟩=>⟨he,hw ▸ Am _ _⟩
 have hl':(Aw 44 ps).length<=2000000:=by rw[Bt];omega
 have hpl:=Qfw ps;obtain⟨hlc,_,hrow⟩:=hr;obtain⟨b,off,rfl,hb,hcl⟩:=hrow aI;have e1:(ps.map fun p=>(⟨p.toArray⟩:ByteArray)).map (·.data.toList)=ps:=by rw[List.map_map];exact List.map_id ps
 have h:=Any.strings_Join Tryz.lays156 Tryz.xtraJ b off c (ps.map fun p=>(⟨p.toArray⟩:ByteArray)) ⟨#[44]⟩ w (fun j x hx=>by
  rw[List.getElem?_map]at hx;obtain⟨p,hp,rfl⟩:=Option.map_eq_some_iff.1 hx;exact hcl j _ (by rw[B6,List.getElem?_map,hp];rfl)) hb (by rw[List.length_map];omega) (by rw[List.length_map];exact hcp) (by rw[e1];show (Lib.join ps [44]).length<=_;rw[Zw];omega)
 rw[e1,List.length_map]at h;refine h.mono ?_;rintro e w' ⟨he,hw⟩;exact⟨by rw[he];show Ending.returned (.string ⟨(Lib.join ps [44]).toArray⟩)=_;rw[Zw],hw⟩
section
attribute [local go_sem] Qm0 Ql8 Qlz Qj6 ByteArray.mk_append_mk
inductive Bd:Vl->Prop
 |mk {w:UInt8} {tx:List UInt8} {tg:Nat} {ks:List Vl} (h1:tg<=1000000000) (h2:Dh (ks.map Ba)<=1000000) (h3:tx.length<=1000000) (h:∀x∈ks,Bd x):Bd (.mk w tx tg ks)
theorem Sn{w:World}{base k n:Nat}{e:TypeId}{v:Value}{xs:List Value}(h:w.ownsRow base e k v n xs):∃A m c,v=.slice A m c:=by
 rcases h.2 with⟨rfl,_⟩|⟨g,cap,cur,rfl,_⟩
 ·exact⟨_,_,_,rfl⟩
 exact⟨_,_,_,rfl⟩
theorem Qks{w:World}{base n m c:Nat}{e:TypeId}{A:Option Addr}{xs:List Value}(h:w.ownsRow base e 1 (.slice A m c) n xs):m=n/\n<=c\/n=0/\m=0:=by
 rcases h.2 with⟨e,h0⟩|⟨g,cap,cur,e,_,_,hnc,_⟩
 ·injection e with _ e1 e2;exact .inr ⟨h0,e1⟩
 injection e with _ e1 e2;subst e1 e2;exact .inl ⟨rfl,hnc⟩
theorem Qlr(w:UInt8)(tx:List UInt8)(tg:Nat)(ps:List (List UInt8)):H6 w tx tg ps=if w=116 then 39::(tx++[39])
  else if w=91 then 91::(Aw 44 ps++[93])else if w=63 then(if ps.length=0 then[45]else 43::Aw 44 ps)else if w=61 then Bb tg++61::Aw 44 ps else if w=82 then 123::(Aw 44 ps++[125])
  else if w=85 then 60::(Bb tg++61::(Aw 44 ps++[62]))else if w=69 then 35::Bb tg else tx:=by
 unfold H6;cases ps<;>rfl
theorem Qdq(P:Nat->Prop)(v:Vl)(sl:Value)(w:World)(h:Ee P w sl v.kids)(hb:Bd v)
  (ih:∀x∈v.kids,∀s W,Ee P W s x.kids->Calls prog 36 #[Ev x s] W fun e w'=>e=.returned (.string ⟨(Ba x).toArray⟩)/\Below W W w'):
  Calls prog 36 #[Ev v sl] w fun e w'=>e=.returned (.string ⟨(Ba v).toArray⟩)/\Below w w w':=by
 have Ih:=Aa ih;obtain⟨wh,tx,tg,ks⟩:=v;obtain⟨h1,h2,h3,_⟩:=hb;have HF:=Aa (Mp wh tx tg ks);simp only[Vl.kids]at h;have Ih:=@Aa (∀x∈ks,∀s W,Ee P W s x.kids->_) ih;obtain⟨A,c,xs,rfl,rfl,hl,hr,hP,hk⟩:=h;have Hr:=Aa hr;have Hk:=Aa hk;have hxl:(Bi xs).length=xs.length:=by simp[Bi]
 have Hd:=Aa (fun W=>Qr tg tg W (Ao _) h1);clear hr hk ih hP;unfold Ev;simp only[Vl.what,Vl.text,Vl.tag];go_enter func36,ntmps36;go_wp2_with fail;obtain⟨w1,hw1⟩:∃w1,w1=w.alloc (.cells #[.int .u8 (wh.toNat:Int),tx,(tg:Int),.slice A xs.length c] 47):=⟨_,rfl⟩
 rw[<-hw1];have c0:w1.cell? (w,0)=some (.int .u8 (wh.toNat:Int)):=eV;have c1:w1.cell? (w,1)=tx:=eV;have c2:w1.cell? (w,2)=(tg:Int):=eV;have c3:w1.cell? (w,3)=some (.slice A xs.length c):=eV;have hz1:w1.heap.size=w.heap.size+1:=eV;have Hb1:=Aa (show Below w w w1 by rw[hw1];exact(Am _ _).alloc (Ao _) _);have Hr1:=Aa (Hr.o.below Hb1.o);have Hk1:=Aa (fun x hx=>(Hk.o x hx).after Hb1.o);have hB:w.heap.size<w1.heap.size:=aI;generalize hB0:w.heap.size=B at *;have HB0:=Aa hB0;clear hB0;clear hw1 Hr Hk;go_loopw [10,3] (fun i u wr=>∃(m:Nat) (A3:Option Addr) (n3 q3:Nat),i=.int .i64 m/\u=.slice A3 n3 q3/\m<=xs.length/\Hid (wr.ownsRow w1 9 1 (.slice A3 n3 q3) m (B6 ((xs.take m).map fun x=>Ba x.1)))/\Hid (Below w1 w1 wr)) (fun i _ _=>xs.length - (intOf i).toNat)
 case atStart=>exact⟨0,none,0,0,rfl,rfl,ah _,World.ownsRow_nil _ _ _ _,Am _ _⟩
 case round=>
  obtain⟨m,A3,n3,q3,rfl,rfl,hm,Hown,Hbr⟩:=hrel;have m1:(0:Int)<=(m:Int):=aI;by_cases hlt:m<xs.length
  ·have m2:(m:Int)<(xs.length:Int):=aI;obtain⟨b,off,rfl,hb,d0,d1,d2,d3⟩:=Ee.at_ (Hr1.o.below Hbr.o) hlt;have hkx:=(Hk1.o _ (af hlt)).after Hbr.o;have Hkx:=Aa hkx;have Hmx:=@Aa (xs[m].1∈Bi xs) (aq (af hlt));have Hts:=Aa (Ch xs m hlt);have hsz:w1.heap.size<=wr.heap.size:=Hbr.o.size;have hbn:¬(b=wr.heap.size):=aI;clear hkx;generalize xs[m]=x at *;obtain⟨y,ys⟩:=x;obtain⟨A7,c7,e7⟩:=Hkx.o.form;simp only at e7 d0 d1 d2 d3 Hkx Hmx;subst e7;have Hx:=Aa (fun W=>Ih.o y Hmx.o (.slice A7 y.kids.length c7) W);unfold Ev at Hx;go_wp2_with fail;refine(Hx.o _ (Hkx.o.after ((Am _ _).alloc (Ao _) _))).mono ?_;rintro e w3 ⟨rfl,hb3⟩;have Hb3:=Aa (((Am _ _).alloc (Ao _) _).trans (hb3.mono aN));have Ho3:=Aa (Cv Hown.o Hb3.o);have hs3:w1.heap.size<=w3.heap.size:=ae hsz Hb3.o.size;clear hb3;go_wp2_with (at_builtin;refine Qp _ rfl _ _ 31 rfl w1 9 aa 16 underlying31 Pr rfl w3 (.string ⟨(Ba y).toArray⟩) rfl rfl (.slice A3 n3 q3) m (B6 ((xs.take m).map fun x=>Ba x.1)) rfl rfl Ho3.o aY aI hs3 ?_;intro v' w5 hown5 hb5;obtain⟨A5,n5,c5,rfl⟩:=Sn hown5;have Ho:=Aa hown5;have Hb5:=Aa hb5;clear hown5 hb5)
   go_roundw
   case rel=>exact⟨m+1,A5,n5,c5,by go_num,rfl,by omega,(by rw[Hts.o,aA,Qaf];exact Ho.o),(Hbr.o.trans (Hb3.o.mono hsz)).trans Hb5.o⟩
   case measure=>simp[intOf];omega
  ·obtain rfl:m=xs.length:=aI;have hown6:=Hown.o;rw[List.take_length]at hown6;have hrow:=Bx.own hown6;obtain⟨A6,c6,e6,hr6⟩:=hrow;have hcap:=Qks hown6;injection e6 with e7 e8 e9;subst e7 e8 e9;have Hps:=Aa (show (xs.map fun x=>Ba x.1)=(Bi xs).map Ba by simp[Bi]);have hpl:(xs.map fun x=>Ba x.1).length=xs.length:=aN
   have Hj:=Aa (fun W (hW:Bx W A3 xs.length (B6 (xs.map fun x=>Ba x.1)))=>(by
    have:=Qlk A3 q3 (xs.map fun x=>Ba x.1) W (by rw[hpl];exact hW) (by rw[hpl];omega) (by rw[Hps.o];omega);rw[hpl]at this;exact this:Calls prog 45 #[.slice A3 xs.length q3,.string ⟨#[44]⟩] W fun e w'=>e=.returned (.string ⟨(Aw 44 (xs.map fun x=>Ba x.1)).toArray⟩)/\Below W W w'))
   have HF:=Aa (show Ba (.mk wh tx tg (Bi xs))=_ by rw[HF.o,<-Hps.o,Qlr,hpl]);have hjl:(Aw 44 (xs.map fun x=>Ba x.1)).length<=1000000:=by rw[Bt,Hps.o];omega
   have hdl:(Bb tg).length<=11:=Db 10 tg (by have e:10 ^ (10+1)=100000000000:=rfl;omega);generalize (xs.map fun x=>Ba x.1)=ps at *;generalize Aw 44 ps=jt at *;have Hr6:=Aa hr6;have Hb6:=Aa (Hb1.o.trans (Hbr.o.mono aI));clear hown6 hr6 hcap Hps hpl Hown Ih Hk1 Hr1;go_wp2_with fail;refine(Hj.o _ Hr6.o).mono ?_;rintro e w4 ⟨rfl,hb4⟩;have Hb4:=Aa (Hb6.o.trans (hb4.mono fY));have hc4:=fun j=>(hb4.cell (p:=⟨B,j,none⟩) (show B<wr.heap.size by have:=Hbr.o.size;omega)).trans (Hbr.o.cell (p:=⟨B,j,none⟩) hB);have g0:=(hc4 0).trans c0;have g1:=(hc4 1).trans c1;have g2:=(hc4 2).trans c2;have g3:=(hc4 3).trans c3;clear hc4 hb4 Hj Hr6 Hb6 Hbr Hb1;by_cases a116:wh=116
   ·have HF:=Aa (HF.o.trans (if_pos a116));have t116:((wh.toNat:Int) == 116)=true:=Bl (d:=116) a116;clear a116;go_wp2_with fail;exact mn
   have HF:=Aa (HF.o.trans (if_neg a116));have t116:((wh.toNat:Int) == 116)=false:=Ap (d:=116) a116;clear a116;by_cases a91:wh=91
   ·have HF:=Aa (HF.o.trans (if_pos a91));have t91:((wh.toNat:Int) == 91)=true:=Bl (d:=91) a91;clear a91;go_wp2_with fail;exact mn
   have HF:=Aa (HF.o.trans (if_neg a91));have t91:((wh.toNat:Int) == 91)=false:=Ap (d:=91) a91;clear a91;by_cases a63:wh=63
   ·have HF:=Aa (HF.o.trans (if_pos a63));have t63:((wh.toNat:Int) == 63)=true:=Bl (d:=63) a63;clear a63;by_cases h0:xs.length=0
    ·have e0:((xs.length:Int) == 0)=true:=by simp[h0]
     have HF:=Aa (HF.o.trans (if_pos h0));clear h0;go_wp2_with fail;exact mo
    have e0:((xs.length:Int) == 0)=false:=co;have HF:=Aa (HF.o.trans (if_neg h0));clear h0;go_wp2_with fail;exact mo
   have HF:=Aa (HF.o.trans (if_neg a63));have t63:((wh.toNat:Int) == 63)=false:=Ap (d:=63) a63;clear a63;by_cases a61:wh=61
   ·have HF:=Aa (HF.o.trans (if_pos a61));have t61:((wh.toNat:Int) == 61)=true:=Bl (d:=61) a61;clear a61;go_wp2_with fail;refine(Hd.o _).mono ?_;rintro e w5 ⟨rfl,hb5⟩;have Hb4:=Aa (Hb4.o.trans (hb5.mono eO));clear hb5;go_wp2_with fail;exact mn
   have HF:=Aa (HF.o.trans (if_neg a61));have t61:((wh.toNat:Int) == 61)=false:=Ap (d:=61) a61;clear a61;by_cases a82:wh=82
   ·have HF:=Aa (HF.o.trans (if_pos a82));have t82:((wh.toNat:Int) == 82)=true:=Bl (d:=82) a82;clear a82;go_wp2_with fail;exact mn
   have HF:=Aa (HF.o.trans (if_neg a82));have t82:((wh.toNat:Int) == 82)=false:=Ap (d:=82) a82;clear a82;by_cases a85:wh=85
   ·have HF:=Aa (HF.o.trans (if_pos a85));have t85:((wh.toNat:Int) == 85)=true:=Bl (d:=85) a85;clear a85;go_wp2_with fail;refine(Hd.o _).mono ?_;rintro e w5 ⟨rfl,hb5⟩;have Hb4:=Aa (Hb4.o.trans (hb5.mono eO));clear hb5;go_wp2_with fail;exact mn
   have HF:=Aa (HF.o.trans (if_neg a85));have t85:((wh.toNat:Int) == 85)=false:=Ap (d:=85) a85;clear a85;by_cases a69:wh=69
   ·have HF:=Aa (HF.o.trans (if_pos a69));have t69:((wh.toNat:Int) == 69)=true:=Bl (d:=69) a69;clear a69;go_wp2_with fail;refine(Hd.o _).mono ?_;rintro e w5 ⟨rfl,hb5⟩;have Hb4:=Aa (Hb4.o.trans (hb5.mono eO));clear hb5;go_wp2_with fail;exact mn
   have HF:=Aa (HF.o.trans (if_neg a69));have t69:((wh.toNat:Int) == 69)=false:=Ap (d:=69) a69;clear a69;go_wp2_with fail;exact mo
theorem Sf(P:Nat->Prop){v:Vl}(hb:Bd v):∀(sl:Value) (w:World),Ee P w sl v.kids ->
  Calls prog 36 #[Ev v sl] w fun e w'=>e=.returned (.string ⟨(Ba v).toArray⟩)/\Below w w w':=by
 induction hb with
 |mk h1 h2 h3 h ih=>exact fun sl w hk=>Qdq P _ sl w hk (.mk h1 h2 h3 h) fun x hx s W hs=>ih x hx s W hs
section
variable {P:Program}
theorem Bh{fn:Func}{p:Tmp}{ty:TypeId}(h:fn.results=#[.cell p ty])(tmps:Array Value)(w:World)(b:Nat)(cs:List Value)(d:TypeDesc)
  (hp:tmps.getD p undef=b) (hc:w.rangeAt b 0 cs) (hu:P.underlying ty=some d) (hd:d.isRow=true) (hi:(P.info? ty).map (·.size)=some cs.length):
  (results fn tmps).run P w=.ok (.agg cs.toArray) w:=by
 have hp':tmps[p]?.getD undef=b:=ez;simp[results,h,hp',asAddr,run_loadVar_mid w b 0 ty cs d hc hu hd hi]
end
theorem Qcb{w W:World}{row:Option Nat}{B o:Nat}(h:w.grownBy W row)(hB:w.heap.size<=B):∀(cs:List Value) (o:Nat),w.grownBy (W.setCells B o cs) row:=by
 intro cs;induction cs generalizing W with
 |nil=>intro o;exact h
 |cons v cs ih=>
  intro o;refine ih (W:=W.setCell ⟨B,o,none⟩ v) ⟨h.os,h.tape,h.output,by simpa using h.size,fun k hk hne=>?_⟩ (o+1);rw[Go.heap_setCell_other _ _ _ _ (show k≠B by omega)];exact h.block k hk hne
theorem Dv.trans{w w1 w2:World}{b:Nat}{p:Value}{t t':List UInt8}{x y:Bool}(h1:Dv w b p t x w1)(h2:Dv w1 b p t' y w2):Dv w b p t' y w2:=⟨h2.1,h1.2.trans h2.2⟩
theorem Dv.pre{w w1 w2:World}{b:Nat}{p:Value}{t:List UInt8}{x:Bool}(hb:Below w w w1)(h:Dv w1 b p t x w2):Dv w b p t x w2:=⟨h.1,(Cf hb _).trans h.2⟩
theorem Dv.post{w w1 w2:World}{b:Nat}{p:Value}{t:List UInt8}{x:Bool}(h:Dv w b p t x w1)(hb:Below w1 w1 w2):Dv w b p t x w2:=⟨h.1.grow hb,h.2.trans (Cf hb _)⟩
theorem Dv.set{w W:World}{b B:Nat}{p:Value}{t:List UInt8}{x:Bool}(h:Dv w b p t x W)(hB:w.heap.size<=B)(hne:B≠b)(cs:List Value):Dv w b p t x (W.setCells B 0 cs):=by
 obtain⟨⟨h0,h1,h2,h3,h4⟩,hg⟩:=h;have hk:(W.setCells B 0 cs).heap[b]?=W.heap[b]?:=(Bq B cs 0 W).block b h0 (by simpa using hne.symm);have hc:∀o,(W.setCells B 0 cs).cell? ⟨b,o,none⟩=W.cell? ⟨b,o,none⟩:=fun o=>World.cell?_of_block (a:=⟨b,o,none⟩) hk;obtain⟨c1,t1,e1⟩:=h1;exact⟨⟨by rw[Cg];exact h0,⟨c1,t1,hk.trans e1⟩,(hc 0).trans h2,(hc 1).trans h3,(hc 2).trans h4⟩,Qcb (o:=0) hg hB cs 0⟩
theorem Dv.env{w0 w w1:World}{b:Nat}{p:Value}{t:List UInt8}{x:Bool}(h:Dv w b p t x w1)(h0:Below w0 w0 w)(hb:w0.heap.size<=b):Below w0 w0 w1:=
 h0.grown h.2 h0.size fun k hk=>by injection hk with hk;omega
theorem Ee.set{P:Nat->Prop}{w:World}{v:Value}{ks:List Vl}(h:Ee P w v ks){B:Nat}(hB:¬P B)(cs:List Value):Ee P (w.setCells B 0 cs) v ks:=
 h.grown (Bq B cs 0 w) fun b hb e=>by injection e with e;subst e;exact hB hb
def M0(w:World)(b:Nat)(p:Value)(t:List UInt8)(N:Nat)(r:Option (Vl × List UInt8))(e:Ending)(w':World):Prop:=
 ∃(v:Vl) (sl:Value) (t':List UInt8),e=.returned (Ev v sl)/\Ee (fun b=>w.heap.size<=b) w' sl v.kids/\Dv w b p t' r.isNone w'/\(∀x,r=some x->v=x.1/\t'=x.2)/\Bd v/\t'.length<=t.length/\(Ba v).length+t'.length<=t.length+8*N
def Fk:Vl:=.mk 0 [] 0 []
theorem Fp{w:UInt8}{tx:List UInt8}{tg:Nat}(h1:tg<=1000000000)(h3:tx.length<=1000000):Bd (.mk w tx tg []):=.mk h1 dT h3 aN
theorem Vr(k:Kd)(w:World)(c:UInt8)(t:List UInt8)(hs:k.signs=c::t)(hl:t.length<=1000):
  Calls prog 101 #[Eh k] w fun e w'=>e=.returned (Eh k.part)/\Below w w w':=by
 have hp:k.part=⟨t,k.base,k.name⟩:=by unfold Kd.part;rw[hs];rfl
 rw[hp];unfold Eh;rw[hs];clear hp hs;go_enter func101,ntmps101;go_wp2_with fail;refine aG (v:=.agg ([t,k.base,k.name]:List Value).toArray) ?_ rfl ?_
 ·refine Bh results101 _ _ (w.heap.size+1) _ _ rfl ?_ underlying62 rfl aP;intro j v hv;match j,hv with
  |0,hv=>simp at hv;subst hv;simp[go_sem]
  |1,hv=>simp at hv;subst hv;simp[go_sem]
  |2,hv=>simp at hv;subst hv;simp[go_sem]
  |n+3,hv=>simp at hv
 exact⟨rfl,((Am _ _).alloc (Ao _) _).alloc aN _⟩
theorem Qer(c:UInt8)(r nm rest:List UInt8)(w:World)(hs:r.length<=3999999)(hc:Ed c)(h:Dg 61 r=(nm,rest,true))(hn:Be nm=true)(hr:rest≠[]):
  Calls prog 135 #[.string ⟨(c::r).toArray⟩] w (Fo (E9 (c::r)) w):=by
 have HF:=Aa (Qb7 hc h hn hr)
 have Hc:=Aa (fun W=>(show Calls prog 164 #[.string ⟨#[82,85,69]⟩,.string ⟨#[c]⟩] W fun e w'=>e=.returned (.bool true)/\W=w' from by
  have:=Pp [82,85,69] c W;rw[Yb,aE hc]at this;exact this))
 have Hcut:=Aa (fun W=>S5 r 61 W aI);have hcl:=Mn 61 r;have Hcut2:=Aa h;rw[h]at Hcut hcl;simp only at hcl;have hcl1:=hcl.1;have hcl2:=hcl.2;have Hname:=Aa (fun W=>Mm nm W aI);rw[hn]at Hname;have Hsp:=Aa (fun W=>Vd rest 44 W aI);have hne:=Ex 44 rest;have Hpl:=Aa (Ar 44 rest);have Hln:=Aa (Js 44 rest);generalize Ak 44 rest=ps at HF Hsp hne Hpl Hln;have Hcs:=Aa hc;have hpsl:ps.length<=4000000:=by have:=Hln.o;omega
 have hr1:rest.isEmpty=false:=eC;have hr2:(rest == [])=false:=eC;clear h hn hr hc hcl;go_enter func135,ntmps135;go_wp2_with fail;refine(Hc.o _).mono ?_;rintro e w' ⟨rfl,rfl⟩;go_wp2_with fail;refine(Hcut.o _).mono ?_;rintro e w1 ⟨rfl,k1,rfl⟩;unfold Qcp;go_wp2_with fail;refine(Hname.o _).mono ?_;rintro e w2 ⟨rfl,hb2⟩;have Hb2:=@Aa (Below w w w2) ((below_drewN (Am _ _) k1).trans (by simpa using hb2));have hz2:=Hb2.o.size;clear hb2;go_wp2_with fail;refine(Hsp.o _).mono ?_;rintro e w3 ⟨v,rfl,ho,hb3⟩;obtain⟨g,cg,rfl,hg1,hg2,hcells⟩:=N7 ho hne;have hg1':w2.heap.size+1<=g:=by simpa using hg1
 have hz3:w2.heap.size<w3.heap.size:=aI;have HT0:=@Aa (w3.rangeAt w2 0 [.int .u8 (c.toNat:Int),nm,.slice none 0 0,.string ⟨(c::r).toArray⟩]) (Ah (Br w2 _ _) aN hb3);have HK0:=@Aa (w3.there w2 0 4) (An (B9 w2 [.int .u8 (c.toNat:Int),nm,.slice none 0 0,.string ⟨(c::r).toArray⟩] _) aN hb3);have HB0:=@Aa (Qa w3 w2.heap.size) ((Qa.new w2 _ _).belowAt aN hb3);have Hb3:=@Aa (Below w w w3) ((Hb2.o.alloc Hb2.o.size _).trans (hb3.mono aO));have Hcells:=@Aa (∀j (hj:j<ps.length),w3.cell? ⟨g,j,none⟩=some (.string ⟨ps[j].toArray⟩)) hcells;have Hown0:=Aa (World.ownsRow_nil w3 w3 105 6);clear ho hb3 hcells hg1 hne;go_wp2_with fail
 go_loopw [53] (fun i wr=>∃(k:Nat) (acc:List Fd) (fv:Value),i=.int .i64 k/\k<=ps.length/\acc.length<=8/\Hid (E9 (c::r)=Qk3 c nm (Fz c (ps.drop k) acc)) /\
   Hid (wr.ownsRow w3 105 6 fv acc.length (acc.flatMap Tf))/\Hid (Below w w wr)/\w3.heap.size<=wr.heap.size /\
   Hid (∀j (hj:j<ps.length),wr.cell? ⟨g,j,none⟩=some (.string ⟨ps[j].toArray⟩)) /\
   Hid (wr.rangeAt w2 0 [.int .u8 (c.toNat:Int),nm,fv,.string ⟨(c::r).toArray⟩])/\Hid (wr.there w2 0 4)/\Hid (Qa wr w2.heap.size)) (fun i _=>ps.length - (intOf i).toNat)
 case atStart=>exact⟨0,[],.slice none 0 0,rfl,ah _,by simp,HF.o,Hown0.o,Hb3.o,Ao _,Hcells.o,HT0.o,HK0.o,HB0.o⟩
 case round=>
  obtain⟨wo,rfl⟩:∃wo:World,wo=wr:=⟨_,rfl⟩
  obtain⟨k,acc,fv,rfl,hk,ha8,hft,hown,hbr,hzr,hpr,hT,hK,hB⟩:=hrel;have i1:(0:Int)<=(k:Int):=aI;obtain⟨A,cA,rfl,hrow⟩:=Bx.ownK hown.o aY;have Hrow:=Aa hrow;have t0:wo.cell? (w2,0)=some (.int .u8 (c.toNat:Int)):=by simpa using Ac hT.o 0 rfl
  have t2:wo.cell? (w2,2)=some (.slice A acc.length cA):=by simpa using Ac hT.o 2 rfl
  clear hrow;by_cases hlt:k<ps.length
  ·have i2:(k:Int)<(ps.length:Int):=aI;have cell:=hpr.o k hlt;have hft2:=Aa ((Qbn (c:=c) (acc:=acc) hlt) ▸ hft.o);have hplk:=Hpl.o _ (af hlt);generalize ps[k]=p at cell hft2 hplk;have Hread:=Aa (fun W=>Qae c Hcs.o p W aI);generalize Jo c p=o at hft2 Hread;go_wp2_with fail;refine(Hread.o _).mono ?_;rintro e w4 ⟨hcase,hb4⟩;have Hb4:=Aa (hbr.o.trans (hb4.mono hbr.o.size));cases o with
   |none=>
    obtain⟨n,a1,a2,a3,a4,a5,rfl⟩:=hcase;have Hend:=@Aa (E9 (c::r)=none) hft2.o;go_wp2_with fail;go_ret2;exact Fo.no Hend.o rfl (Hb4.o.alloc Hb4.o.size _)
   |some f=>
    have hcase':e=.returned (.tuple #[.agg #[(f.tag:Int),f.name,f.kind.signs,f.kind.base,f.kind.name,f.given],.bool true]):=hcase;subst hcase';clear hcase;have s0:=(hb4.cell (p:=⟨w2.heap.size,0,none⟩) (show w2.heap.size<wo.heap.size by omega)).trans t0;have s2:=(hb4.cell (p:=⟨w2.heap.size,2,none⟩) (show w2.heap.size<wo.heap.size by omega)).trans t2;have hz4:wo.heap.size<=w4.heap.size:=hb4.size;have hn4:¬(w2.heap.size=w4.heap.size):=aI;have hn5:w2.heap.size<w4.heap.size:=aI;have Hb4r:=Aa hb4;clear t0 t2 hb4;have hft3:=@Aa (E9 (c::r)=Qk3 c nm (if acc.length=8\/G6 acc f=false then none else Fz c (ps.drop (k+1)) (acc++[f]))) hft2.o;clear hft2;rcases Nat.eq_or_lt_of_le ha8 with h8|h8
    ·have q1:((acc.length:Int) == 8)=true:=by simp[h8]
     have Hend:=Aa (hft3.o.trans (by rw[if_pos (.inl h8)]));clear h8;go_wp2_with fail;go_ret2;exact Fo.no Hend.o rfl (Hb4.o.alloc Hb4.o.size _)
    have q1:((acc.length:Int) == 8)=false:=co;go_wp2_with fail;have f0:(w4.alloc (.cells #[(f.tag:Int),f.name,f.kind.signs,f.kind.base,f.kind.name,f.given] 105)).cell? (w4,0)=(f.tag:Int):=aN;have f1:(w4.alloc (.cells #[(f.tag:Int),f.name,f.kind.signs,f.kind.base,f.kind.name,f.given] 105)).cell? (w4,1)=f.name:=aN;have HR0:=Aa (Br w4 [(f.tag:Int),f.name,f.kind.signs,f.kind.base,f.kind.name,f.given] 105);go_loopw [81] (fun jj wq=>∃j:Nat,jj=.int .i64 j/\j<=acc.length/\Hid (∀x∈acc.take j,x.name≠f.name/\x.tag<f.tag)/\Hid (Below w4 w4 wq)/\w4.heap.size<wq.heap.size/\Hid (wq.rangeAt w4 0 [(f.tag:Int),f.name,f.kind.signs,f.kind.base,f.kind.name,f.given])) (fun jj _=>acc.length - (intOf jj).toNat)
    case atStart=>exact⟨0,rfl,ah _,by intro x hx;simp at hx,(Am _ _).alloc (Ao _) _,by simp,HR0.o⟩
    case round=>
     clear f0 f1;obtain⟨j,rfl,hj,hin,hbq,hzq,hfr⟩:=hrel;have j1:(0:Int)<=(j:Int):=aI;have f0:wr.cell? (w4,0)=(f.tag:Int):=by simpa using Ac hfr.o 0 rfl
     have f1:wr.cell? (w4,1)=f.name:=by simpa using Ac hfr.o 1 rfl
     have hnq:¬(w4.heap.size=wr.heap.size):=aI;have Hbq:=Aa (Hb4.o.trans (hbq.o.mono Hb4.o.size));by_cases hjl:j<acc.length
     ·have j2:(j:Int)<(acc.length:Int):=aI;obtain⟨bA,oA,rfl,hbA,hrg⟩:=Rk.range ((Hrow.o.below Hb4r.o).below hbq.o) hjl;have Hts:=Aa (Ch acc j hjl);have Hmem:=Aa (af hjl);have Hrg:=@Aa (wr.rangeAt bA (oA+j*6) [.int .i64 (acc[j].tag:Int),.string ⟨acc[j].name.toArray⟩,.string ⟨acc[j].kind.signs.toArray⟩,.string ⟨acc[j].kind.base.toArray⟩,.string ⟨acc[j].kind.name.toArray⟩,.string ⟨acc[j].given.toArray⟩]) hrg;clear hrg;generalize acc[j]=x at Hts Hmem Hrg;rcases Decidable.em (x.name=f.name)with hnm|hnm
      ·have q2:(x.name == f.name)=true:=by simp[hnm]
       have Hend:=Aa (hft3.o.trans (by rw[if_pos (.inr (Qdi Hmem.o (.inr hnm)))]));clear hnm;go_wp2_with ((with_reducible refine wpList_load_mid (op:=⟨_,.load 105 _,_,_,_,none⟩) rfl 105 _ rfl bA (oA+j*6) ?_ _ _ Hrg.o underlying105 ?_ ?_ ?_);rfl;rfl;kernel_rfl)
       go_ret2;exact Fo.no Hend.o rfl (Hbq.o.alloc Hbq.o.size _)
      have q2:(x.name == f.name)=false:=by simp[hnm]
      rcases aH x.tag f.tag with ht|ht
      ·have q3:decide ((f.tag:Int)<=(x.tag:Int))=false:=eT
       have Hin:=Aa (show ∀y∈acc.take (j+1),y.name≠f.name/\y.tag<f.tag from by
        intro y hy;rw[Hts.o]at hy;rcases ag.1 hy with hy|hy
        ·exact hin.o y hy
        simp at hy;subst hy;exact⟨hnm,ht⟩)
       clear hnm;go_wp2_with ((with_reducible refine wpList_load_mid (op:=⟨_,.load 105 _,_,_,_,none⟩) rfl 105 _ rfl bA (oA+j*6) ?_ _ _ Hrg.o underlying105 ?_ ?_ ?_);rfl;rfl;kernel_rfl)
       go_roundw
       case rel=>exact⟨j+1,by go_num,by omega,Hin.o,hbq.o.alloc (Nat.le_of_lt hzq) _,by simp;omega,Ah hfr.o hzq ((Am wr.heap.size wr).alloc (Ao _) _)⟩
       case measure=>simp[intOf];omega
      have q3:decide ((f.tag:Int)<=(x.tag:Int))=true:=by rw[decide_eq_true_iff];omega
      have Hend:=Aa (hft3.o.trans (by rw[if_pos (.inr (Qdi Hmem.o (.inl ht)))]));clear hnm;go_wp2_with ((with_reducible refine wpList_load_mid (op:=⟨_,.load 105 _,_,_,_,none⟩) rfl 105 _ rfl bA (oA+j*6) ?_ _ _ Hrg.o underlying105 ?_ ?_ ?_);rfl;rfl;kernel_rfl)
      go_ret2;exact Fo.no Hend.o rfl (Hbq.o.alloc Hbq.o.size _)
     ·have j2:¬(j:Int)<(acc.length:Int):=aI
      have Hft4:=Aa (show E9 (c::r)=Qk3 c nm (Fz c (ps.drop (k+1)) (acc++[f]))from by
       rw[hft3.o,if_neg];rintro(h|h)
       ·omega
       rw[Qes (fun y hy=>hin.o y (by rw[av aI];exact hy))]at h;cases h)
      have hb1:Below wo wo wr:=Hb4r.o.trans (hbq.o.mono hz4);have Hown:=Aa (Cv hown.o hb1);have Hpr:=@Aa (∀j (hj:j<ps.length),wr.cell? ⟨g,j,none⟩=some (.string ⟨ps[j].toArray⟩)) (fun j hj=>(hb1.cell (p:=⟨g,j,none⟩) (show g<wo.heap.size by omega)).trans (hpr.o j hj));have HT1:=Aa (Ah hT.o (show w2.heap.size<wo.heap.size by omega) hb1);have HB1:=Aa (hB.o.belowAt (show w2.heap.size<wo.heap.size by omega) hb1);have HK1:=Aa (An hK.o (show w2.heap.size<wo.heap.size by omega) hb1);have hz5:w3.heap.size<=wr.heap.size:=aI;have hz6:w.heap.size<=w3.heap.size:=aI;clear hb1 f0 f1;go_wp2_with fail;refine Bo [98,99,100,101,102,103,104,105,106,107,999] aP aP aP (fun u=>by dsimp only[Cd,Bu,List.set,ao,Nat.reduceAdd])
       (fun i v W=>match i with|0=>v=w2.heap.size|1=>v=w2.heap.size|2=>v=w2.heap.size|3=>v=(w2,2)|4=>v=.slice A acc.length cA|5=>v=.agg #[(f.tag:Int),f.name,f.kind.signs,f.kind.base,f.kind.name,f.given]|8=>v=w2.heap.size|9=>v=(w2,2)|_=>True)
       (fun L U W=>Below w w W/\w3.heap.size<=W.heap.size/\(∀j (hj:j<ps.length),W.cell? ⟨g,j,none⟩=some (.string ⟨ps[j].toArray⟩))/\(W.there w2 0 4/\Qa W w2.heap.size) /\
        (L 10=false->W.rangeAt w2 0 [.int .u8 (c.toNat:Int),nm,.slice A acc.length cA,.string ⟨(c::r).toArray⟩])/\(L 10=true->W.rangeAt w2 0 [.int .u8 (c.toNat:Int),nm,U 7,.string ⟨(c::r).toArray⟩]) /\
        (L 5=false->W.rangeAt w4 0 [(f.tag:Int),f.name,f.kind.signs,f.kind.base,f.kind.name,f.given])/\(L 7=false->W.ownsRow w3 105 6 (.slice A acc.length cA) acc.length (acc.flatMap Tf))/\(L 7=true->W.ownsRow w3 105 6 (U 7) (acc.length+1) (acc.flatMap Tf++Tf f)) /\
        (L 6=true->L 7=false->∃q,U 6=.slice (some ⟨q,0,none⟩) 1 1/\W.rangeAt q 0 [(f.tag:Int),f.name,f.kind.signs,f.kind.base,f.kind.name,f.given]))
       (fun _ _=>True) (fun w w' _ i v h=>by revert h;exact fun h=>h) ⟨Hbq.o.drew,hz5,Hpr.o,⟨HK1.o,HB1.o⟩,fun _=>HT1.o,by simp,fun _=>hfr.o,fun _=>Hown.o,by simp,by simp⟩ ?_ ?_
      ·repeat (first|exact Ai.nil|(refine Ai.cons ?_ ?_;rotate_left))
       all_goals
        rintro L U W hL hpre hR hun hdep K hK;have Hdep:=Aa hdep;have HR:=Aa hR;clear hun hdep hR;first|(simp[Region.binds]at hpre;done)|simp[Region.binds]at hpre|clear hpre
       ·go_simp;exact hK _ _ _ rfl Ab HR.o rfl
       ·go_simp;exact hK _ _ _ rfl Ab HR.o rfl
       ·have u1:=hpre.2;go_simp;exact hK w2.heap.size _ _ rfl Ab HR.o (by simp[Act.put,u1])
       ·have u2:=hpre.2;go_simp;exact hK (w2,2) _ _ rfl Ab HR.o (by simp[Act.put,u2])
       ·have h10:=(At Hdep.o 10 7 rfl (At Hdep.o 7 4 rfl hL))
        obtain⟨r1,r2,r3,r4,r5,r6,r7,r8,r9,r0⟩:=HR.o;have u3:=hpre.2;have c2:W.cell? (w2,2)=some (.slice A acc.length cA):=by simpa using Ac (r5 h10) 2 rfl
        clear r1 r2 r3 r4 r5 r6 r7 r8 r9 r0;go_simp;exact hK (.slice A acc.length cA) _ _ rfl Ab HR.o (by simp[Act.put,u3])
       ·obtain⟨r1,r2,r3,r4,r5,r6,r7,r8,r9,r0⟩:=HR.o;rw[if_pos cC];refine wp_load_mid 105 _ rfl w4 0 rfl [(f.tag:Int),f.name,f.kind.signs,f.kind.base,f.kind.name,f.given] _ (r7 hL) underlying105 rfl aP ?_;exact hK (.agg ([(f.tag:Int),f.name,f.kind.signs,f.kind.base,f.kind.name,f.given]:List Value).toArray) _ _ rfl Ab ⟨r1,r2,r3,r4,r5,r6,fun h=>by simp at h,r8,r9,r0⟩ rfl
       ·obtain⟨r1,r2,r3,r4,r5,r6,r7,r8,r9,r0⟩:=HR.o;have R1:=Aa r1;have u5:=hpre.2;have HF5:=Aa (Br W [(f.tag:Int),f.name,f.kind.signs,f.kind.base,f.kind.name,f.given] 105)
        have HRR:=Aa (show (∀j (hj:j<ps.length),(W.alloc (.cells #[(f.tag:Int),f.name,f.kind.signs,f.kind.base,f.kind.name,f.given] 105)).cell? ⟨g,j,none⟩=some (.string ⟨ps[j].toArray⟩))/\((W.alloc (.cells #[(f.tag:Int),f.name,f.kind.signs,f.kind.base,f.kind.name,f.given] 105)).there w2 0 4/\Qa (W.alloc (.cells #[(f.tag:Int),f.name,f.kind.signs,f.kind.base,f.kind.name,f.given] 105)) w2.heap.size) /\
         (L 10=false->(W.alloc (.cells #[(f.tag:Int),f.name,f.kind.signs,f.kind.base,f.kind.name,f.given] 105)).rangeAt w2 0 [.int .u8 (c.toNat:Int),nm,.slice A acc.length cA,.string ⟨(c::r).toArray⟩])/\(L 10=true->(W.alloc (.cells #[(f.tag:Int),f.name,f.kind.signs,f.kind.base,f.kind.name,f.given] 105)).rangeAt w2 0 [.int .u8 (c.toNat:Int),nm,U 7,.string ⟨(c::r).toArray⟩]) /\
         (L 5=false->(W.alloc (.cells #[(f.tag:Int),f.name,f.kind.signs,f.kind.base,f.kind.name,f.given] 105)).rangeAt w4 0 [(f.tag:Int),f.name,f.kind.signs,f.kind.base,f.kind.name,f.given])/\(L 7=false->(W.alloc (.cells #[(f.tag:Int),f.name,f.kind.signs,f.kind.base,f.kind.name,f.given] 105)).ownsRow w3 105 6 (.slice A acc.length cA) acc.length (acc.flatMap Tf))/\(L 7=true->(W.alloc (.cells #[(f.tag:Int),f.name,f.kind.signs,f.kind.base,f.kind.name,f.given] 105)).ownsRow w3 105 6 (U 7) (acc.length+1) (acc.flatMap Tf++Tf f))
         from⟨fun j hj=>by rw[World.cell?_alloc_old _ _ _ (show g≠W.heap.size by omega)];exact r3 j hj,⟨au r4.1 _,r4.2.belowAt (show w2.heap.size<W.heap.size by omega) ((Am _ _).alloc (Ao _) _)⟩,fun h=>World.rangeAt_alloc (r5 h) _,fun h=>World.rangeAt_alloc (r6 h) _,fun h=>World.rangeAt_alloc (r7 h) _,fun h=>(r8 h).alloc _,fun h=>(r9 h).alloc _⟩)
        clear r1 r3 r4 r5 r6 r7 r8 r9 r0;go_simp;refine hK (.slice (W,0) 1 1) _ _ Ab Ab ⟨R1.o.alloc R1.o.size _,by simp;omega,HRR.o.1,HRR.o.2.1,HRR.o.2.2.1,HRR.o.2.2.2.1,HRR.o.2.2.2.2.1,HRR.o.2.2.2.2.2.1,HRR.o.2.2.2.2.2.2,fun _ _=>⟨W.heap.size,rfl,HF5.o⟩⟩ (by simp[Act.put,u5])
       ·obtain⟨r1,r2,r3,r4,r5,r6,r7,r8,r9,r0⟩:=HR.o;have h10:=(At Hdep.o 10 7 rfl hL)
        have h7:=r8 hL;obtain⟨q,e1,e2⟩:=r0 hpre.2 hL;obtain⟨i0,hi,hz0,hz1,hz2'⟩:=info_parts Tryz.infoIf;rw[if_pos cC];refine wp_append_own W (.tmp 102) (.tmp 104) 159 rfl w3 105 i0 (.agg #[.int .i64 0,aa,aa,aa,aa,aa]) 6 88 underlying159 hi hz0 hz1 hz2' rfl aL (.slice A acc.length cA) acc.length (acc.flatMap Tf) hpre.1.2 h7 ⟨q,0,none⟩ 1 1 (Tf f) e1 (by simp[Tf]) ?_ (fun y hy=>Qkl [f] y eD) aY aI r2 ?_
        ·intro i x hx;rw[Qf5];have:=e2 i x hx;simpa using this
        intro v' w' hown' hgr _;have hbw:Below w3 W w':=(Am _ _).grown hgr r2 (fun k hk=>(h7.lt k hk).1);refine hK v' w' _ Ab Ab ⟨r1.trans (hbw.mono hz6),ae r2 hbw.size,fun j hj=>(hbw.cell (p:=⟨g,j,none⟩) (show g<w3.heap.size by omega)).trans (r3 j hj),⟨An r4.1 hz3 hbw,r4.2.belowAt hz3 hbw⟩,fun h=>Ah (r5 h) hz3 hbw,fun h=>absurd h10 (by rw[show L 10=true from h];decide),fun h=>absurd hpre.2 (by rw[At Hdep.o 6 5 rfl h];decide),fun h=>by simp at h,fun _=>hown',fun _ h=>by simp at h⟩ rfl
       ·have u0:=hpre.1.2;go_simp;exact hK w2.heap.size _ _ rfl Ab HR.o aK
       ·have u8:=hpre.2;go_simp;exact hK (w2,2) _ _ rfl Ab HR.o aK
       ·obtain⟨r1,r2,r3,r4,r5,r6,r7,r8,r9,r0⟩:=HR.o;have R1:=Aa r1;have l7:L 7=true:=by first|exact hpre.2.1|exact hpre.2.1.1
        have h5:=r5 hL;have h9:=r9 l7;obtain⟨A7,n7,c7,e7⟩:=Ew h9;rw[e7]at h9;obtain⟨y2,c2⟩:=Option.isSome_iff_exists.1 (r4.1 2 aL).1;rw[ao]at c2;have z2:W.frozen? (w2,2)=false:=by simpa using(r4.1 2 aL).2
        have hT10:=@Aa ((W.setCell ⟨w2.heap.size,2,none⟩ (.slice A7 n7 c7)).rangeAt w2 0 [.int .u8 (c.toNat:Int),nm,(.slice A7 n7 c7),.string ⟨(c::r).toArray⟩]) (Ck [.int .u8 (c.toNat:Int),nm] [.slice A acc.length cA] [.string ⟨(c::r).toArray⟩] [.slice A7 n7 c7] h5 rfl);have hK10:=@Aa ((W.setCell ⟨w2.heap.size,2,none⟩ (.slice A7 n7 c7)).there w2 0 4) (aj r4.1 w2 2 [.slice A7 n7 c7]);have hBk10:=Aa (r4.2.set (o:=2) (.slice A7 n7 c7))
        have hP10:=Aa (show ∀j (hj:j<ps.length),(W.setCell ⟨w2.heap.size,2,none⟩ (.slice A7 n7 c7)).cell? ⟨g,j,none⟩=some (.string ⟨ps[j].toArray⟩)from fun j hj=>by
         rw[World.cell?_setCell_other _ _ _ _ cd];exact r3 j hj)
        have hO10:=@Aa ((W.setCell ⟨w2.heap.size,2,none⟩ (.slice A7 n7 c7)).ownsRow w3 105 6 (.slice A7 n7 c7) (acc.length+1) (acc.flatMap Tf++Tf f)) (h9.kept (Md W _ (.slice A7 n7 c7)) (.inr (fun e=>by have:=(h9.lt _ e).1;simp at this;omega)));have hz10:w3.heap.size<=(W.setCell ⟨w2.heap.size,2,none⟩ (.slice A7 n7 c7)).heap.size:=by simpa using r2
        have hB10:=@Aa (Below w w (W.setCell ⟨w2.heap.size,2,none⟩ (.slice A7 n7 c7))) (r1.setCell hz2 _);clear r1 r3 r4 r5 r6 r7 r8 r9 r0 h5 h9;go_simp;exact hK undef _ _ Ab Ab ⟨hB10.o,hz10,hP10.o,⟨hK10.o,hBk10.o⟩,fun h=>by simp at h,fun _=>by show World.rangeAt _ _ _ [_,_,U 7,_];rw[e7];exact hT10.o,fun h=>absurd l7 (by rw[(At Hdep.o 7 6 rfl (At Hdep.o 6 5 rfl h))];decide),fun h=>absurd l7 (by rw[show L 7=false from h];decide),fun _=>by show World.ownsRow _ _ _ _ (U 7) _ _;rw[e7];exact hO10.o,fun _ h=>absurd l7 (by rw[show L 7=false from h];decide)⟩ (by simp[Act.put,hpre,e7])
      rintro L U W hL hφ hR;obtain⟨hbW,hzW,hprW,hKW,_,hTW,_,_,hoW,_⟩:=hR;have hTW':=hTW (hL 10 aL);have hoW':=hoW (hL 7 aL);generalize U 7=V at hTW' hoW';have HbW:=Aa hbW;have HprW:=Aa hprW;have HKW:=Aa hKW.1;have HBW:=Aa hKW.2;have HTW:=Aa hTW';have HoW:=Aa hoW';clear hL hφ hbW hprW hKW hTW hoW hTW' hoW';go_wp2_with fail;go_roundw
      case rel=>exact⟨k+1,acc++[f],V,by go_num,by omega,by simp;omega,Hft4.o,by rw[ai,List.flatMap_append,show [f].flatMap Tf=Tf f from by simp];exact HoW.o,HbW.o,hzW,HprW.o,HTW.o,HKW.o,HBW.o⟩
      case measure=>simp[intOf];omega
  ·have i2:¬(k:Int)<(ps.length:Int):=aI;have Hfin:=Aa (show E9 (c::r)=some ⟨c,nm,acc⟩by rw[hft.o,List.drop_of_length_le aI];rfl);go_wp2_with fail;go_ret2;refine Fo.yes Hfin.o (b:=w2.heap.size) (fv:=.slice A acc.length cA) rfl hz2 ?_ (fun k hk=>by have:=(hown.o.lt k hk).1;omega) hbr.o;refine⟨show w2.heap.size<wo.heap.size by omega,hB.o,by simpa using Ac hT.o 0 rfl,by simpa using Ac hT.o 1 rfl,by simpa using Ac hT.o 2 rfl,?_,A,cA,rfl,ha8,Hrow.o⟩;have hB:=(Gc.1 Hfin.o).2;show _=some (Value.string ⟨(Xe ⟨c,nm,acc⟩).toArray⟩);rw[hB];simpa using Ac hT.o 3 rfl
theorem Qca(s:List UInt8)(w:World)(hs:s.length<=4000000):
  Calls prog 135 #[s] w (Fo (E9 s) w):=by
 cases s with
 |nil=>exact Qg0 w
 |cons c r=>
  simp at hs;by_cases hc:Ed c
  ·by_cases h:(Dg 61 r).2.2=false\/Be (Dg 61 r).1=false\/(Dg 61 r).2.1=[]
   ·exact Qed c r w aI hc h
   simp only[not_or]at h;exact Qer c r (Dg 61 r).1 (Dg 61 r).2.1 w aI hc (Prod.ext rfl (Prod.ext rfl (by simpa using h.1))) (by simpa using h.2.1) h.2.2
  exact Qew c r w aI hc
def Qlo(w:World)(p:Value)(xs:List PT):Prop:=
 ∃b mb,p=.pointer (some ⟨b,0,none⟩)/\b<w.heap.size/\w.cell? ⟨b,1,none⟩=some (.map (some mb))/\Qt w mb xs
theorem Sw.map{w:World}{p:Value}{xs:List PT}(h:Sw w p xs):Qlo w p xs:=by
 obtain⟨b,A,c,mb,e,h0,h1,h2,h3,h4,_⟩:=h;exact⟨b,mb,e,h0,h2,h4⟩
theorem Fy{w:World}{mb:Nat}{xs:List PT}(h:Qt w mb xs)(n:Cl)(hn:n.length<=9223372036854775807):
  (Instr.lookup 156 (.map (some mb)) n false).run prog w=.ok (Qag (Fa xs n)) w:=
 Dq.lookup h Tryz.keyStr underlying156 (Tryz.zeroPtr w) (Qf9 hn)
theorem Ki{k:Kd}(h:Cm k):k.name.length<=3:=by
 rcases h.2.1 with⟨_,hn⟩|⟨_,hn⟩
 ·exact(Dm.1 hn).2.1
 rw[hn];simp
theorem Qcq(p:Value)(xs:List PT)(k:Kd)(w:World)(h:Qlo w p xs)(hk:k.name.length<=100):
  Calls prog 97 #[p,Eh k] w fun e w'=>e=.returned (.bool (decide (B0 (Ag xs) k)))/\Below w w w':=by
 obtain⟨b,mb,rfl,hb,hm,hn⟩:=h;have Hn:=Aa hn;clear hn;unfold Eh;generalize hd:(.cells #[k.signs,k.base,k.name] 62:Obj)=ob;have hl0:w.heap.size<(w.alloc ob).heap.size:=aN;have x1:(w.alloc ob).cell? (w,1)=k.base:=by rw[<-hd];simp
 have x2:(w.alloc ob).cell? (w,2)=k.name:=by rw[<-hd];simp
 have x3:(w.alloc ob).cell? (b,1)=some (.map (some mb)):=by rw[World.cell?_alloc_old _ _ _ (show b≠w.heap.size by omega)];exact hm
 have hlook:∀q,(Instr.lookup 156 (.map (some mb)) k.name false).run prog ((w.alloc ob).drewN q)=.ok (Qag (Fa xs k.name)) ((w.alloc ob).drewN q):=fun q=>Fy (Dq.below (Hn.o.alloc _) (below_drewN (Am _ _) q)) k.name aI;have Hd:=Aa hd
 have Hr:=Aa (show decide (B0 (Ag xs) k)=(decide (k.base≠[64]) || (Fa xs k.name).isSome)by
  have e:B0 (Ag xs) k↔(k.base=[64]->(Fa xs k.name).isSome=true):=by unfold B0;rw[Ji];simp
  by_cases h:k.base=[64]
  ·cases hf:Fa xs k.name with
   |none=>rw[aD (fun h2=>by have:=e.1 h2 h;rw[hf]at this;cases this)];simp[h]
   |some x=>rw[aE (e.2 (fun _=>by rw[hf];rfl))];simp
  rw[aE (e.2 (fun h2=>absurd h2 h))];simp[h])
 have Hb:=@Aa (Below w w (w.alloc ob)) ((Am _ _).alloc (Ao _) _);go_enter func97,ntmps97;rcases Decidable.em (k.base=[64])with h64|h64
 ·have t1:(k.base != [64])=false:=fg;have H64:=Aa h64;clear h64 hd hl0;go_wp2_with fail;rw[Hd.o];cases hf:Fa xs k.name with
  |none=>
   rw[hf]at hlook;have Hf:=Aa hf;clear hf;unfold Qag at hlook;refine Bo [5,6,7,8,9,10,11,12,13,14,15,16,17,4] aP aP aP (fun u=>by dsimp only[Cd,Bu,List.set,ao,Nat.reduceAdd])
    (fun i v W=>match i with|0=>v=(w,1)|1=>v=k.base|2=>v=.bool false|3=>v=.bool false|4=>v=b|5=>v=b|6=>v=(b,1)|7=>v=.map (some mb)|8=>v=(w,2)|9=>v=k.name|10=>v=.pointer none|11=>v=.bool false|12=>v=.bool false|13=>v=.bool false|_=>True) (fun L U W=>∃q,W=(w.alloc ob).drewN q) (fun _ _=>True) (fun _ _ _ _ _ h=>h) ⟨1,rfl⟩ ?_ ?_
   ·exact iJ
   rintro L U W hL hφ ⟨q,rfl⟩;have e13:U 13=.bool false:=hφ 13 aL;simp only[e13];go_wp2_with fail;go_ret;exact⟨Ej (C0 (by rw[Hr.o,Hf.o];simp[H64.o])),below_drewN Hb.o _⟩
  |some x=>
   rw[hf]at hlook;have Hf:=Aa hf;clear hf;unfold Qag PT.ptr at hlook;refine Bo [5,6,7,8,9,10,11,12,13,14,15,16,17,4] aP aP aP (fun u=>by dsimp only[Cd,Bu,List.set,ao,Nat.reduceAdd])
    (fun i v W=>match i with|0=>v=(w,1)|1=>v=k.base|2=>v=.bool false|3=>v=.bool false|4=>v=b|5=>v=b|6=>v=(b,1)|7=>v=.map (some mb)|8=>v=(w,2)|9=>v=k.name|10=>v=x.blk|11=>v=.bool true|12=>v=.bool true|13=>v=.bool true|_=>True) (fun L U W=>∃q,W=(w.alloc ob).drewN q) (fun _ _=>True) (fun _ _ _ _ _ h=>h) ⟨1,rfl⟩ ?_ ?_
   ·exact iJ
   rintro L U W hL hφ ⟨q,rfl⟩;have e13:U 13=.bool true:=hφ 13 aL;simp only[e13];go_wp2_with fail;go_ret;exact⟨Ej (C0 (by rw[Hr.o,Hf.o];simp)),below_drewN Hb.o _⟩
 have t1:(k.base != [64])=true:=fg;have H64:=Aa h64;clear h64 hd hl0;go_wp2_with fail;rw[Hd.o];refine Bo [5,6,7,8,9,10,11,12,13,14,15,16,17,4] aP aP aP (fun u=>by dsimp only[Cd,Bu,List.set,ao,Nat.reduceAdd])
  (fun i v W=>match i with|0=>v=(w,1)|1=>v=k.base|2=>v=.bool true|3=>v=.bool true|12=>v=.bool true|13=>v=.bool true|_=>True) (fun L U W=>∃q,W=(w.alloc ob).drewN q) (fun _ _=>True) (fun _ _ _ _ _ h=>h) ⟨1,rfl⟩ ?_ ?_
 ·exact iJ
 rintro L U W hL hφ ⟨q,rfl⟩;have e13:U 13=.bool true:=hφ 13 aL;simp only[e13];go_wp2_with fail;go_ret;exact⟨Ej (C0 (by rw[Hr.o];simp[H64.o])),below_drewN Hb.o _⟩
theorem Tv{S:List Ty}{n:Nat}{t:Ty}(h:Gb S t=none):B8 S (n+1) t=true:=by rw[B8,h]
theorem Qkd{S:List Ty}{n:Nat}{t u:Ty}(h:Gb S t=some u):B8 S (n+1) t=B8 S n u:=by rw[B8,h]
theorem Qhh{S:List Ty}{t:Ty}(h:t.sort≠85):Gb S t=none:=if_neg h
theorem Qgj{S:List Ty}{t:Ty}{f:Fd}{fs:List Fd}(h:t.sort=85)(hf:t.fields=f::fs):Gb S t=if f.kind.signs=[]/\f.kind.base=[64]then Bp S f.kind.name else none:=by
 unfold Gb;rw[if_pos h,hf]
theorem Qdh{t:Ty}(h:Ff t)(hs:t.sort=85):∃f fs,t.fields=f::fs/\Cm f.kind:=by
 obtain⟨_,_,h3,_,h5⟩:=h;cases hf:t.fields with
 |nil=>have:=h5 hf;rw[hs]at this;exact absurd this aL
 |cons f fs=>exact⟨f,fs,rfl,((h3.1 f eE).2.2.2.2 eJ).1⟩
theorem Qhz(p:Value)(xs:List PT)(x:PT)(w:World)(h:Qlo w p xs)(hT:∀y∈xs,Rl w y)(hok:∀y∈xs,Ff y.ty)(hS:Ha (Ag xs))(hx:x∈xs):
  Calls prog 136 #[p,x.ptr] w fun e w'=>e=.returned (.bool (B8 (Ag xs) 9 x.ty))/\Below w w w':=by
 have Hmap:=Aa h;obtain⟨b,mb,rfl,hb,hm,hn⟩:=h;have HT:=Aa hT;have Hok:=Aa hok;have HS:=Aa hS;have Hx:=Aa hx;have Hn:=Aa hn;have Hm:=Aa hm;clear hT hok hS hx hn hm;unfold PT.ptr;go_enter func136,ntmps136;go_wp2_with fail;go_loopw [1,6] (fun t i wr=>∃(n:Nat) (y:PT),i=.int .i64 n/\n<=9/\t=y.blk/\Hid (y∈xs)/\Hid (B8 (Ag xs) 9 x.ty=B8 (Ag xs) (9 - n) y.ty)/\Hid (Below w w wr)) (fun _ i _=>9 - (intOf i).toNat)
 case atStart=>exact⟨0,x,rfl,by omega,rfl,Hx.o,rfl,Am _ _⟩
 case round=>
  obtain⟨n,y,rfl,hn9,rfl,hy,he,hbr⟩:=hrel;have n1:(0:Int)<=(n:Int):=aI;obtain⟨hyb,_,y0,y1,y2,y3,A,cA,hyf,hl8,hrow⟩:=(HT.o y hy.o).below hbr.o;have Hrow:=Aa hrow;have hzw:=hbr.o.size;rw[hyf]at y2;clear hrow hyf y1 y3;by_cases hlt:n<9
  ·have n2:(n:Int)<9:=aI;have he2:=Aa (show B8 (Ag xs) 9 x.ty=B8 (Ag xs) (8 - n+1) y.ty by rw[he.o,show 9 - n=8 - n+1 by omega]);by_cases h85:y.ty.sort=85
   ·have t1:((y.ty.sort.toNat:Int) != 85)=false:=Nb (d:=85) h85;obtain⟨f,fs,hf,hkd⟩:=Qdh (Hok.o y hy.o) h85;have Hnext:=Aa (Qgj (S:=Ag xs) h85 hf);have hpos:0<y.ty.fields.length:=eE;obtain⟨bA,oA,rfl,hbA,hrg⟩:=Rk.range Hrow.o hpos;have hf0:y.ty.fields[0]=f:=by simp[hf]
    rw[hf0,Nat.zero_mul,Nat.add_zero]at hrg;have Hrg:=@Aa (wr.rangeAt bA (oA+2) [f.kind.signs,f.kind.base,f.kind.name]) (Qb9 [(f.tag:Int),f.name] _ [f.given] hrg);have hp1:(0:Int)<(y.ty.fields.length:Int):=aI;have Href:=Aa (HS.o y.ty (aq (f:=(·.ty)) hy.o) ep f eE);have Hkd:=Aa hkd;have hnl:=Ki hkd;clear h85 hf hf0 hrg hkd;have hbb:=Aa ((Hm.o));by_cases hsg:f.kind.signs=[]
    ·have s1:(f.kind.signs != [])=false:=cW;have s2:f.kind.signs.isEmpty=true:=cW;have s4:(!f.kind.signs.isEmpty)=false:=cW;by_cases h64:f.kind.base=[64]
     ·have s3:(f.kind.base == [64])=true:=fg;have s5:(f.kind.base != [64])=false:=fg;have hsome:=Href.o h64;rw[Ji]at hsome;cases hz:Fa xs f.kind.name with
      |none=>rw[hz]at hsome;cases hsome
      |some z=>
       have Hz:=Aa (show B8 (Ag xs) 9 x.ty=B8 (Ag xs) (8 - n) z.ty from by
        rw[he2.o];exact Qkd (by rw[Hnext.o,if_pos ⟨hsg,h64⟩,Ji,hz];rfl))
       have Hzm:=Aa (Gh hz).1;generalize hd:(.cells #[f.kind.signs,f.kind.base,f.kind.name] 62:Obj)=ob;have x2:(wr.alloc ob).cell? (wr,2)=f.kind.name:=by rw[<-hd];simp
       have x3:(wr.alloc ob).cell? (b,1)=some (.map (some mb)):=by
        rw[World.cell?_alloc_old _ _ _ (show b≠wr.heap.size by omega)];exact(hbr.o.cell (p:=⟨b,1,none⟩) hb).trans Hm.o
       have hlook:∀q,(Instr.lookup 156 (.map (some mb)) f.kind.name false).run prog ((wr.alloc ob).drewN q)=.ok z.blk ((wr.alloc ob).drewN q):=fun q=>by
        have:=Fy (Dq.below (Dq.alloc (Dq.below Hn.o hbr.o) ob) (below_drewN (Am _ _) q)) f.kind.name aI;rw[hz]at this;exact this
       have Hbb:=@Aa (Below w w (wr.alloc ob)) (hbr.o.alloc hzw _);have Hd:=Aa hd;clear hd hsg h64 hz hsome;go_wp2_with ((with_reducible refine wpList_load_mid (op:=⟨_,.load 62 _,_,_,_,none⟩) rfl 62 _ rfl bA (oA+2) ?_ _ _ Hrg.o underlying62 ?_ ?_ ?_);rfl;rfl;kernel_rfl)
       rw[Hd.o];refine Bo [28,29,30,31,32,33,34,1] aP aP aP (fun u=>by dsimp only[Cd,Bu,List.set,ao,Nat.reduceAdd])
        (fun i v W=>match i with|0=>v=b|1=>v=b|2=>v=(b,1)|3=>v=.map (some mb)|4=>v=(wr,2)|5=>v=f.kind.name|6=>v=z.blk|7=>v=z.blk|_=>True) (fun L U W=>∃q,W=(wr.alloc ob).drewN q) (fun _ _=>True) (fun _ _ _ _ _ h=>h) ⟨1,rfl⟩ ?_ ?_
       ·repeat (first|exact Ai.nil|(refine Ai.cons ?_ ?_;rotate_left))
        all_goals
         rintro L U W hL hpre ⟨q,rfl⟩ hun hdep K hK;have hlq:=hlook q;clear hun hdep;first|(simp[Region.binds]at hpre;done)|simp[Region.binds]at hpre|clear hpre
         go_simp;first|exact hK _ _ _ rfl Ab ⟨q,rfl⟩ rfl|exact hK _ _ _ rfl Ab ⟨q,rfl⟩ aK
       rintro L U W hL hφ ⟨q,rfl⟩;have e7:U 7=z.blk:=hφ 7 aL;simp only[e7];clear hφ hL hlook x2 x3;go_wp2_with fail;go_roundw
       case rel=>exact⟨n+1,z,by go_num,by omega,rfl,Hzm.o,by show _=B8 (Ag xs) (9 - (n+1)) z.ty;rw[Hz.o,show 9 - (n+1)=8 - n by omega],below_drewN Hbb.o _⟩
       case measure=>simp[intOf];omega
     have s3:(f.kind.base == [64])=false:=fg;have s5:(f.kind.base != [64])=true:=fg;have Hend:=Aa (he2.o.trans (Tv (by rw[Hnext.o,if_neg (fun h=>h64 h.2)])));clear hsg h64;go_wp2_with ((with_reducible refine wpList_load_mid (op:=⟨_,.load 62 _,_,_,_,none⟩) rfl 62 _ rfl bA (oA+2) ?_ _ _ Hrg.o underlying62 ?_ ?_ ?_);rfl;rfl;kernel_rfl)
     exact mp
    have s1:(f.kind.signs != [])=true:=cW;have s2:f.kind.signs.isEmpty=false:=cW;have s4:(!f.kind.signs.isEmpty)=true:=cW;have Hend:=Aa (he2.o.trans (Tv (by rw[Hnext.o,if_neg (fun h=>hsg h.1)])));clear hsg;go_wp2_with ((with_reducible refine wpList_load_mid (op:=⟨_,.load 62 _,_,_,_,none⟩) rfl 62 _ rfl bA (oA+2) ?_ _ _ Hrg.o underlying62 ?_ ?_ ?_);rfl;rfl;kernel_rfl)
    exact mp
   have t1:((y.ty.sort.toNat:Int) != 85)=true:=Qq (d:=85) h85;have Hend:=Aa (he2.o.trans (Tv (Qhh h85)));clear h85;go_wp2_with fail;go_ret;exact⟨Ej (C0 Hend.o.symm),hbr.o⟩
  ·obtain rfl:n=9:=aI;have Hend:=@Aa (B8 (Ag xs) 9 x.ty=false) he.o;go_wp2_with fail;go_ret;exact⟨Ej (C0 Hend.o.symm),hbr.o⟩
theorem Rl.kept{w w':World}{x:PT}{row:Option Nat}(h:Rl w x)(hg:w.grownBy w' row)(h1:row≠some x.blk)(h2:∀k,0<x.ty.fields.length->x.fv.ownBlock=some k->row≠some k):Rl w' x:=by
 obtain⟨h0,hk,a0,a1,a2,a3,A,c,e,hl,hr⟩:=h;have hne:some x.blk≠row:=fun e=>h1 e.symm;refine⟨ad h0 hg.size,hk.grown h0 hg hne,hg.cell a0 hne,hg.cell a1 hne,hg.cell a2 hne,hg.cell a3 hne,A,c,e,hl,hr.1,hr.2.1,fun hn=>?_⟩;obtain⟨b,off,eA,hb,hc⟩:=hr.2.2 hn;have hne2:some b≠row:=fun e2=>h2 b aI (by rw[e,eA];rfl) e2.symm;exact⟨b,off,eA,ad hb hg.size,fun j u hu=>hg.cell (hc j u hu) hne2⟩
theorem Rl.fvlt{w:World}{x:PT}(h:Rl w x){k:Nat}(hn:0<x.ty.fields.length)(hk:x.fv.ownBlock=some k):k<w.heap.size:=by
 obtain⟨_,_,_,_,_,_,A,c,e,_,hr⟩:=h;obtain⟨b,off,eA,hb,_⟩:=hr.2.2 aI;rw[e,eA]at hk;simp only[Value.ownBlock,ak]at hk;omega
def Qeb(lo:Nat)(x:PT):Prop:=lo<=x.blk/\∀k,0<x.ty.fields.length->x.fv.ownBlock=some k->lo<=k
def Qjm(v:Value)(x:PT):Prop:=v.ownBlock≠some x.blk/\∀k,0<x.ty.fields.length->x.fv.ownBlock=some k->v.ownBlock≠some k
def Yz(w:World)(lo:Nat)(v:Value)(xs:List PT):Prop:=(∀x∈xs,Rl w x/\Qeb lo x/\Qjm v x)/\xs.Pairwise fun x y=>x.blk≠y.blk
theorem Yz.far{w w':World}{lo b:Nat}{v:Value}{xs:List PT}(h:Yz w lo v xs)(hg:w.grownBy w' (some b))(hb:b<lo):Yz w' lo v xs:=
 ⟨fun x hx=>by
  obtain⟨h1,h2,h3⟩:=h.1 x hx;refine⟨h1.kept hg (fun e=>?_) (fun k hn hk e=>?_),h2,h3⟩
  ·injection e with e;have:=h2.1;omega
  injection e with e;have:=h2.2 k hn hk;omega,h.2⟩
theorem Yz.below{w w':World}{lo:Nat}{v:Value}{xs:List PT}(h:Yz w lo v xs)(hb:Below w w w'):Yz w' lo v xs:=
 ⟨fun x hx=>⟨(h.1 x hx).1.below hb,(h.1 x hx).2⟩,h.2⟩
theorem Yz.push{wo w3 w5:World}{lo base n k1:Nat}{e:TypeId}{v v5:Value}{cs:List Value}{xs:List PT}{x:PT}(h:Yz wo lo v xs)(hb:Below wo wo w3)(hown:wo.ownsRow base e k1 v n cs)(hx:Rl w3 x)(hxb:wo.heap.size<=x.blk)
  (hxf:∀k,x.fv.ownBlock=some k->wo.heap.size<=k) (hlo:lo<=wo.heap.size) (hg:w3.grownBy w5 v.ownBlock) (hwh:v5.ownBlock=v.ownBlock\/∃k,v5.ownBlock=some k/\w3.heap.size<=k):Yz w5 lo v5 (xs++[x]):=by
 have hall:∀y∈xs++[x],Rl w3 y/\Qeb lo y/\Qjm v y:=by
  intro y hy;rcases ag.1 hy with hy|hy
  ·obtain⟨h1,h2⟩:=h.1 y hy;exact⟨h1.below hb,h2⟩
  simp at hy;subst hy;refine⟨hx,⟨by omega,fun k _ hk=>by have:=hxf k hk;omega⟩,fun e=>?_,fun k _ hk e=>?_⟩
  ·have:=(hown.lt _ e).2;omega
  have:=(hown.lt _ e).2;have:=hxf k hk;omega
 refine⟨fun y hy=>?_,?_⟩
 ·obtain⟨h1,h2,h3⟩:=hall y hy;refine⟨h1.kept hg h3.1 h3.2,h2,?_⟩;rcases hwh with hwh|⟨k,hwh,hk⟩
  ·unfold Qjm;rw[hwh];exact h3
  refine⟨fun e=>?_,fun k2 hn hk2 e=>?_⟩
  ·rw[hwh]at e;injection e with e;have:=h1.1;omega
  rw[hwh]at e;injection e with e;have:=h1.fvlt hn hk2;omega
 rw[List.pairwise_append];refine⟨h.2,by simp,fun y hy z hz=>?_⟩;simp at hz;subst hz;have:=(h.1 y hy).1.1;omega
def Su(lo:Nat)(w:World)(p:Value)(xs:List PT):Prop:=
 ∃b A c mb,p=.pointer (some ⟨b,0,none⟩)/\b<w.heap.size/\w.cell? ⟨b,0,none⟩=some (.slice A xs.length c)/\w.cell? ⟨b,1,none⟩=some (.map (some mb))/\Bx w A xs.length (xs.map (·.ptr))/\Qt w mb xs/\(∀x∈xs,Rl w x)/\(xs.Pairwise fun x y=>x.blk≠y.blk) /\
  lo<=b/\lo<=mb/\(∀g o,0<xs.length->A=some ⟨g,o,none⟩->lo<=g)/\∀x∈xs,Qeb lo x
theorem Su.isc{lo:Nat}{w:World}{p:Value}{xs:List PT}(h:Su lo w p xs):Sw w p xs:=by
 obtain⟨b,A,c,mb,h0,h1,h2,h3,h4,h5,h6,h7,_⟩:=h;exact⟨b,A,c,mb,h0,h1,h2,h3,h4,h5,h6,h7⟩
theorem Su.below{lo:Nat}{w w':World}{p:Value}{xs:List PT}(h:Su lo w p xs)(hb:Below w w w'):Su lo w' p xs:=by
 obtain⟨b,A,c,mb,e,h0,h1,h2,h3,h4,h5,h6,h7⟩:=h;obtain⟨hc,_,hz⟩:=Ci hb;exact⟨b,A,c,mb,e,hz _ h0,(hc _ _ h0).trans h1,(hc _ _ h0).trans h2,h3.below hb,Dq.below h4 hb,fun x hx=>(h5 x hx).below hb,h6,h7⟩
theorem Su.far{lo b0:Nat}{w w':World}{p:Value}{xs:List PT}(h:Su lo w p xs)(hg:w.grownBy w' (some b0))(hb0:b0<lo):Su lo w' p xs:=by
 obtain⟨b,A,c,mb,e,h0,h1,h2,h3,h4,h5,h6,l1,l2,l3,l4⟩:=h;have hne:some b≠some b0:=cd;refine⟨b,A,c,mb,e,ad h0 hg.size,hg.cell h1 hne,hg.cell h2 hne,⟨h3.1,h3.2.1,fun hn=>?_⟩,Dq.kept h4 hg cd,fun x hx=>(h5 x hx).kept hg (fun e=>?_) (fun k hn hk e=>?_),h6,l1,l2,l3,l4⟩
 ·obtain⟨g,o,eA,hgl,hc⟩:=h3.2.2 hn;have:=l3 g o hn eA;exact⟨g,o,eA,ad hgl hg.size,fun j u hu=>hg.cell (hc j u hu) (by intro e;injection e with e;simp at e;omega)⟩
 ·injection e with e;have:=(l4 x hx).1;omega
 injection e with e;have:=(l4 x hx).2 k hn hk;omega
def Jr(o:Option (List Ty))(w:World)(e:Ending)(w':World):Prop:=
 (match o with
  |some S=>∃p xs,Ag xs=S/\e=.returned (.tuple #[p,.bool true])/\Su w.heap.size w' p xs
  |none=>∃p:Option Addr,e=.returned (.tuple #[.pointer p,.bool false]))/\Below w w w'
theorem Jr.no{w w':World}{e:Ending}{o:Option (List Ty)}(ho:o=none){p:Option Addr}(he:e=.returned (.tuple #[.pointer p,.bool false]))(hb:Below w w w'):Jr o w e w':=by
 rw[ho];exact⟨⟨p,he⟩,hb⟩
theorem Jr.yes{w w':World}{e:Ending}{o:Option (List Ty)}{p:Value}{xs:List PT}(ho:o=some (Ag xs))(he:e=.returned (.tuple #[p,.bool true]))(hs:Su w.heap.size w' p xs)(hb:Below w w w'):Jr o w e w':=by
 rw[ho];exact⟨⟨p,xs,rfl,he,hs⟩,hb⟩
theorem Qds{xs:List PT}{x:PT}(h:Fa xs x.ty.name=none)(l:Lit)(hl:WideAt.IsKeyLit l):(if l.sameKey (.string x.ty.name)=true then x.ptr else Yq xs l)=Yq (xs++[x]) l:=by
 by_cases e:l=.string x.ty.name
 ·subst e;rw[if_pos (WideAt.sameKey_self hl)];unfold Fa at h;show x.ptr=Qag ((xs++[x]).find? fun y=>decide (y.ty.name=x.ty.name));rw[List.find?_append,h];simp[Qag]
 rw[if_neg (fun hh=>e ((WideAt.sameKey_iff (show WideAt.IsKeyLit (.string x.ty.name)from Ab)).1 hh))];cases l with
 |string s=>
  have hne:¬x.ty.name=s:=fun h2=>e (by rw[h2]);unfold Yq Fa;simp only;rw[List.find?_append];simp[hne]
 |_=>rfl
theorem Yp{xs:List PT}{n:Cl}:Fa xs n=none↔(Ag xs).any (fun u=>decide (u.name=n))=false:=by
 unfold Fa Ag;rw[List.find?_eq_none,List.any_map];simp
theorem Tryz.infoPt:(prog.info? 100).map (fun i=>(i.zero,i.size,i.bytes))=some (some (.pointer none),1,8):=aP
theorem Qb1(s:List UInt8)(w:World)(hs:s.length<=4000000)(h:400<s.length):
  Calls prog 95 #[s] w (Jr (Cb s) w):=by
 have HF:=@Aa (Cb s=none) (if_pos h);have t1:(400:Int)<(s.length:Int):=aI;go_enter func95,ntmps95;go_wp2_with fail;go_ret2;exact Jr.no HF.o rfl (Am _ _)
theorem Sw.tys{w:World}{p:Value}{xs:List PT}(h:Sw w p xs):∀x∈xs,Rl w x:=by
 obtain⟨_,_,_,_,_,_,_,_,_,_,h,_⟩:=h;exact h
theorem Qet(s:List UInt8)(w:World)(hs:s.length<=400):
  Calls prog 95 #[s] w (Jr (Cb s) w):=by
 have HF:=@Aa (Cb s=(match Gj (s.length+1) s []with|none=>none|some S=>if Ha S/\(∀t∈S,B8 S 9 t=true)then some S else none)) (if_neg aI);have t1:¬(400:Int)<(s.length:Int):=aI;have hmm:=@run_makeMap prog;go_enter func95,ntmps95;go_wp2_with fail;clear hmm;have HM0:=@Aa (Dq prog 9 (.pointer none) ((w.alloc (.map #[] 0)).alloc (.cells #[.slice none 0 0,.map (some w.heap.size)] 158)) w 0 (Yq [])) (((Dq.made w prog 9 (.pointer none)).alloc _).of_eq (fun l hl=>by cases l<;>rfl))
 have HR0:=Aa (show ((w.alloc (.map #[] 0)).alloc (.cells #[.slice none 0 0,.map (some w.heap.size)] 158)).rangeAt (w.heap.size+1) 0 [.slice none 0 0,.map (some w.heap.size)]from by
  have:=Br (w.alloc (.map #[] 0)) [.slice none 0 0,.map (some w.heap.size)] 158;simpa using this)
 have HK0:=Aa (show ((w.alloc (.map #[] 0)).alloc (.cells #[.slice none 0 0,.map (some w.heap.size)] 158)).there (w.heap.size+1) 0 2 from by
  have:=B9 (w.alloc (.map #[] 0)) [.slice none 0 0,.map (some w.heap.size)] 158;simpa using this)
 have HB0:=@Aa (Below w w ((w.alloc (.map #[] 0)).alloc (.cells #[.slice none 0 0,.map (some w.heap.size)] 158))) (((Am _ _).alloc (Ao _) _).alloc aN _);have HO0:=Aa (World.ownsRow_nil ((w.alloc (.map #[] 0)).alloc (.cells #[.slice none 0 0,.map (some w.heap.size)] 158)) (w.heap.size+2) 100 1)
 go_loopw [0] (fun l wr=>∃(u:List UInt8) (fuel:Nat) (xs:List PT) (tv:Value),l=u/\u.length<=s.length/\u.length<fuel/\Hid (Gj (s.length+1) s []=Gj fuel u (Ag xs))/\xs.length<=8 /\
   Hid (wr.rangeAt (w.heap.size+1) 0 [tv,.map (some w.heap.size)])/\Hid (wr.there (w.heap.size+1) 0 2)/\Hid (wr.ownsRow (w.heap.size+2) 100 1 tv xs.length (xs.map (·.ptr))) /\
   Hid (Qt wr w.heap.size xs)/\Hid (Yz wr (w.heap.size+2) tv xs)/\Hid (Below w w wr)/\w.heap.size+2<=wr.heap.size) (fun l _=>Sj l)
 case atStart=>exact⟨s,s.length+1,[],.slice none 0 0,rfl,Ao _,by omega,rfl,by simp,HR0.o,HK0.o,HO0.o,HM0.o,⟨by simp,List.Pairwise.nil⟩,HB0.o,by simp⟩
 case round=>
  clear HM0 HR0 HK0 HB0 HO0;obtain⟨wo,rfl⟩:∃wo:World,wo=wr:=⟨_,rfl⟩
  obtain⟨u,fuel,xs,tv,rfl,hul,hfu,hlin,hx8,hT,hK,hown,hnm,hty,hbr,hzr⟩:=hrel;obtain⟨A,cA,rfl,hrow⟩:=Bx.own hown.o;have Hrow:=Aa hrow;have s0:wo.cell? (w,1,0)=some (.slice A xs.length cA):=by simpa using Ac hT.o 0 rfl
  have s1:wo.cell? (w,1,1)=some (.map (some w.heap.size)):=by simpa using Ac hT.o 1 rfl
  obtain⟨fuel,rfl⟩:∃f,fuel=f+1:=⟨fuel - 1,by omega⟩
  clear hrow;by_cases hu:u=[]
  ·subst hu;have Hlin:=Aa (show Gj (s.length+1) s []=some (Ag xs)by rw[hlin.o];simp[Gj]);have hgood:=Vk.1 Hlin.o;have Htok:=@Aa (∀x∈xs,Ff x.ty) (fun x hx=>hgood.1.1 x.ty (aq (f:=(·.ty)) hx));have HF2:=@Aa (Cb s=if Ha (Ag xs)/\(∀t∈Ag xs,B8 (Ag xs) 9 t=true)then some (Ag xs)else none) (by rw[HF.o,Hlin.o]);have HSC:=@Aa (Sw wo (w,1,0) xs) ⟨w.heap.size+1,A,cA,w.heap.size,rfl,by omega,s0,s1,by have:=Hrow.o;simpa using this,hnm.o,fun x hx=>(hty.o.1 x hx).1,hty.o.2⟩;have Hrow2:=@Aa (Bx wo A xs.length (xs.map (·.ptr))) Hrow.o
   have HSL:=Aa (show Su w.heap.size wo (w,1,0) xs from⟨w.heap.size+1,A,cA,w.heap.size,rfl,by omega,s0,s1,Hrow2.o,hnm.o,fun x hx=>(hty.o.1 x hx).1,hty.o.2,by omega,Ao _,fun g o _ eA=>by
    have:=(hown.o.lt g (by rw[eA];rfl)).1;omega,fun x hx=>⟨by have:=(hty.o.1 x hx).2.1.1;omega,fun k hn hk=>by have:=(hty.o.1 x hx).2.1.2 k hn hk;omega⟩⟩)
   clear hgood hlin hT hK hown hnm hty Hrow HF Hlin;have S0:=Aa s0;go_wp2_with fail;clear s0 s1;go_loopw [84] (fun i wr=>∃k:Nat,i=.int .i64 k/\k<=xs.length/\Hid (∀x∈xs.take k,x.ty.sort≠69->∀f∈x.ty.fields,B0 (Ag xs) f.kind)/\Hid (Below wo wo wr)) (fun i _=>xs.length - (intOf i).toNat)
   case atStart=>exact⟨0,rfl,ah _,by intro x hx;simp at hx,Am _ _⟩
   case round=>
    obtain⟨wp,rfl⟩:∃wp:World,wp=wr:=⟨_,rfl⟩
    obtain⟨k,rfl,hk,hin,hbp⟩:=hrel;have k1:(0:Int)<=(k:Int):=aI;have hzp:=hbp.o.size;by_cases hkl:k<xs.length
    ·have k2:(k:Int)<(xs.length:Int):=aI;obtain⟨bA,oA,rfl,hbA,cl⟩:=(Hrow2.o.below hbp.o).at_ hkl;rw[List.getElem_map]at cl;have Hts:=Aa (Ch xs k hkl);have Hmem:=Aa (af hkl);generalize xs[k]=x at cl Hts Hmem;unfold PT.ptr at cl;have Hxt:=Aa (Htok.o x Hmem.o);obtain⟨hyb,_,y0,y1,y2,y3,A7,c7,hyf,hl8,hrow7⟩:=(HSC.o.tys x Hmem.o).below hbp.o;rw[hyf]at y2;have Hrow7:=Aa hrow7;clear hrow7 hyf y1 y3;go_wp2_with fail;go_loopw [93] (fun i wr=>∃j:Nat,i=.int .i64 j/\j<=x.ty.fields.length/\Hid (x.ty.sort≠69->∀f∈x.ty.fields.take j,B0 (Ag xs) f.kind)/\Hid (Below wp wp wr)) (fun i _=>x.ty.fields.length - (intOf i).toNat)
     case atStart=>exact⟨0,rfl,ah _,by intro _ f hf;simp at hf,Am _ _⟩
     case round=>
      obtain⟨j,rfl,hj,hin2,hbq⟩:=hrel;have j1:(0:Int)<=(j:Int):=aI;have hzq:=hbq.o.size;have x0:=(hbq.o.cell (p:=⟨x.blk,0,none⟩) hyb).trans y0;have hxw:x.blk<wr.heap.size:=aI;have hxn:¬(x.blk=wr.heap.size):=aI;have Hbw:=@Aa (Below w w wr) ((hbr.o.trans (hbp.o.mono aI)).trans (hbq.o.mono aI));have Hbo2:=@Aa (Below wo wo wr) (hbp.o.trans (hbq.o.mono hzp));by_cases hjl:j<x.ty.fields.length
      ·have j2:(j:Int)<(x.ty.fields.length:Int):=aI;obtain⟨b8,o8,rfl,hb8,hrg⟩:=Rk.range (Hrow7.o.below hbq.o) hjl;have Hts2:=Aa (Ch x.ty.fields j hjl);have Hfm:=Aa (af hjl);have Hrg:=@Aa (wr.rangeAt b8 (o8+j*6) [.int .i64 (x.ty.fields[j].tag:Int),.string ⟨x.ty.fields[j].name.toArray⟩,.string ⟨x.ty.fields[j].kind.signs.toArray⟩,.string ⟨x.ty.fields[j].kind.base.toArray⟩,.string ⟨x.ty.fields[j].kind.name.toArray⟩,.string ⟨x.ty.fields[j].given.toArray⟩]) hrg;clear hrg;generalize x.ty.fields[j]=f at Hts2 Hfm Hrg;by_cases h69:x.ty.sort=69
       ·have t69:((x.ty.sort.toNat:Int) != 69)=false:=Nb (d:=69) h69;have Hin2:=@Aa (x.ty.sort≠69->∀f∈x.ty.fields.take (j+1),B0 (Ag xs) f.kind) (fun h=>absurd h69 h);clear h69;go_wp2_with ((with_reducible refine wpList_load_mid (op:=⟨_,.load 105 _,_,_,_,none⟩) rfl 105 _ rfl b8 (o8+j*6) ?_ _ _ Hrg.o underlying105 ?_ ?_ ?_);rfl;rfl;kernel_rfl)
        go_roundw
        case rel=>exact⟨j+1,by go_num,by omega,Hin2.o,hbq.o.alloc hzq _⟩
        case measure=>simp[intOf];omega
       have t69:((x.ty.sort.toNat:Int) != 69)=true:=Qq (d:=69) h69;have Hkd:=Aa ((Hxt.o.2.2.1.1 f Hfm.o).2.2.2.2 h69).1;have Hhas:=Aa (fun W (h:Below wo wo W)=>Qcq _ xs f.kind W (HSC.o.below h).map (ae (Ki Hkd.o) aL));unfold Eh at Hhas;by_cases hrf:B0 (Ag xs) f.kind
       ·have Hin2:=Aa (show x.ty.sort≠69->∀f∈x.ty.fields.take (j+1),B0 (Ag xs) f.kind from fun h g hg=>by
         rw[Hts2.o]at hg;rcases ag.1 hg with hg|hg
         ·exact hin2.o h g hg
         simp at hg;subst hg;exact hrf)
        rw[aE hrf]at Hhas;clear h69 hrf;go_wp2_with ((with_reducible refine wpList_load_mid (op:=⟨_,.load 105 _,_,_,_,none⟩) rfl 105 _ rfl b8 (o8+j*6) ?_ _ _ Hrg.o underlying105 ?_ ?_ ?_);rfl;rfl;kernel_rfl)
        refine(Hhas.o _ (Hbo2.o.alloc aI _)).mono ?_;rintro e w9 ⟨rfl,hb9⟩;have Hb9:=@Aa (Below wp wp w9) ((hbq.o.alloc hzq _).trans (hb9.mono aO));clear hb9;go_wp2_with fail;go_roundw
        case rel=>exact⟨j+1,by go_num,by omega,Hin2.o,Hb9.o⟩
        case measure=>simp[intOf];omega
       have Hend:=Aa (show Cb s=none by
        rw[HF2.o,if_neg];rintro⟨h,_⟩;exact hrf (h x.ty (aq (f:=(·.ty)) Hmem.o) h69 f Hfm.o))
       rw[aD hrf]at Hhas;clear h69 hrf;go_wp2_with ((with_reducible refine wpList_load_mid (op:=⟨_,.load 105 _,_,_,_,none⟩) rfl 105 _ rfl b8 (o8+j*6) ?_ _ _ Hrg.o underlying105 ?_ ?_ ?_);rfl;rfl;kernel_rfl)
       refine(Hhas.o _ (Hbo2.o.alloc aI _)).mono ?_;rintro e w9 ⟨rfl,hb9⟩;have Hb9:=@Aa (Below w w w9) ((Hbw.o.alloc Hbw.o.size _).trans (hb9.mono aO));clear hb9;go_wp2_with fail;go_ret2;exact Jr.no Hend.o rfl Hb9.o
      ·have j2:¬(j:Int)<(x.ty.fields.length:Int):=aI
       have Hin3:=Aa (show ∀y∈xs.take (k+1),y.ty.sort≠69->∀f∈y.ty.fields,B0 (Ag xs) f.kind from fun y hy=>by
        rw[Hts.o]at hy;rcases ag.1 hy with hy|hy
        ·exact hin.o y hy
        simp at hy;subst hy;intro h f hf;exact hin2.o h f dX)
       go_wp2_with fail;go_roundw
       case rel=>exact⟨k+1,by go_num,by omega,Hin3.o,Hbo2.o⟩
       case measure=>simp[intOf];omega
    ·have k2:¬(k:Int)<(xs.length:Int):=aI
     have Hkinds:=Aa (show Ha (Ag xs)from fun t ht h f hf=>by
      obtain⟨x,hx,rfl⟩:=ay.1 ht;exact hin.o x (by rw[av aI];exact hx) h f hf)
     have s9:=(hbp.o.cell (p:=⟨w.heap.size+1,0,none⟩) (show w.heap.size+1<wo.heap.size by omega)).trans S0.o;have HSP:=Aa (HSC.o.below hbp.o);have HrowP:=Aa (Hrow2.o.below hbp.o);have HbP:=@Aa (Below w w wp) (hbr.o.trans (hbp.o.mono aI));go_wp2_with fail;clear s9;go_loopw [116] (fun i wr=>∃m:Nat,i=.int .i64 m/\m<=xs.length/\Hid (∀x∈xs.take m,B8 (Ag xs) 9 x.ty=true)/\Hid (Below wp wp wr)) (fun i _=>xs.length - (intOf i).toNat)
     case atStart=>exact⟨0,rfl,ah _,by intro x hx;simp at hx,Am _ _⟩
     case round=>
      obtain⟨m,rfl,hm,hin4,hbm⟩:=hrel;have m1:(0:Int)<=(m:Int):=aI;have HbM:=@Aa (Below w w wr) (HbP.o.trans (hbm.o.mono HbP.o.size));by_cases hml:m<xs.length
      ·have m2:(m:Int)<(xs.length:Int):=aI;obtain⟨bA,oA,rfl,hbA,cl⟩:=(HrowP.o.below hbm.o).at_ hml;rw[List.getElem_map]at cl;have Hts:=Aa (Ch xs m hml);have Hmem:=Aa (af hml);generalize xs[m]=x at cl Hts Hmem;have Hends:=Aa (Qhz _ xs x wr (HSP.o.below hbm.o).map (HSP.o.below hbm.o).tys Htok.o Hkinds.o Hmem.o);unfold PT.ptr at cl Hends;cases hee:B8 (Ag xs) 9 x.ty with
       |true=>
        rw[hee]at Hends
        have Hin5:=Aa (show ∀y∈xs.take (m+1),B8 (Ag xs) 9 y.ty=true from fun y hy=>by
         rw[Hts.o]at hy;rcases ag.1 hy with hy|hy
         ·exact hin4.o y hy
         simp at hy;subst hy;exact hee)
        clear hee;go_wp2_with fail;refine Hends.o.mono ?_;rintro e w9 ⟨rfl,hb9⟩;have Hb9:=Aa (hbm.o.trans (hb9.mono hbm.o.size));clear hb9;go_wp2_with fail;go_roundw
        case rel=>exact⟨m+1,by go_num,by omega,Hin5.o,Hb9.o⟩
        case measure=>simp[intOf];omega
       |false=>
        rw[hee]at Hends
        have Hend:=Aa (show Cb s=none by
         rw[HF2.o,if_neg];rintro⟨_,h⟩;have:=h x.ty (aq (f:=(·.ty)) Hmem.o);rw[hee]at this;cases this)
        clear hee;go_wp2_with fail;refine Hends.o.mono ?_;rintro e w9 ⟨rfl,hb9⟩;have Hb9:=Aa (HbM.o.trans (hb9.mono HbM.o.size));clear hb9;go_wp2_with fail;go_ret2;exact Jr.no Hend.o rfl Hb9.o
      ·have m2:¬(m:Int)<(xs.length:Int):=aI
       have Hfin:=Aa (show Cb s=some (Ag xs)by
        rw[HF2.o,if_pos];refine⟨Hkinds.o,fun t ht=>?_⟩;obtain⟨x,hx,rfl⟩:=ay.1 ht;exact hin4.o x (by rw[av aI];exact hx))
       go_wp2_with fail;go_ret2;exact Jr.yes Hfin.o rfl ((HSL.o.below hbp.o).below hbm.o) HbM.o
  ·have hu1:u.isEmpty=false:=fq;have hu2:(!u.isEmpty)=true:=fq;have hu3:(u == [])=false:=fq;have hu4:(u != [])=true:=fq
   have Hlin:=Aa (show Gj (s.length+1) s []=(if (Dg 10 u).2.2=false\/(Ag xs).length=8 then none else match E9 (Dg 10 u).1 with
    |none=>none
    |some t=>if (Ag xs).any (fun v=>decide (v.name=t.name))=true then none else Gj fuel (Dg 10 u).2.1 (Ag xs++[t]))by rw[hlin.o,Gj,if_neg hu];rfl)
   have Hcut:=Aa (fun W=>S5 u 10 W aI);have hcl:=Mn 10 u;have hsh:(Dg 10 u).2.2=true->(Dg 10 u).2.1.length<u.length:=fun h=>by
    rcases Fv 10 u with⟨_,e⟩|⟨p,t,e1,_,e⟩
    ·rw[e]at h;cases h
    rw[e];show t.length<u.length;rw[e1];simp;omega
   have Hsh:=Aa hsh;generalize Dg 10 u=q at *;obtain⟨ln,rest,told⟩:=q;simp only at hcl Hlin Hsh;have hcl1:=hcl.1;have hcl2:=hcl.2;clear hcl hu hlin hsh;go_wp2_with fail;refine(Hcut.o _).mono ?_;rintro e w1 ⟨rfl,k1,rfl⟩;unfold Qcp;cases told with
   |false=>
    have Hend:=Aa (show Cb s=none by rw[HF.o,Hlin.o];simp);go_wp2_with fail;go_ret2;exact Jr.no Hend.o rfl (below_drewN hbr.o _)
   |true=>
    have hrl:=Hsh.o aN;rcases Nat.eq_or_lt_of_le hx8 with h8|h8
    ·have q1:((xs.length:Int) == 8)=true:=by simp[h8]
     have Hend:=Aa (show Cb s=none by rw[HF.o,Hlin.o];simp[Ag,h8]);clear h8;go_wp2_with fail;go_ret2;exact Jr.no Hend.o rfl (below_drewN hbr.o _)
    have q1:((xs.length:Int) == 8)=false:=co
    have Hlin2:=Aa (show Gj (s.length+1) s []=(match E9 ln with
     |none=>none
     |some t=>if (Ag xs).any (fun v=>decide (v.name=t.name))=true then none else Gj fuel rest (Ag xs++[t]))by rw[Hlin.o,if_neg (by simp[Ag];omega)])
    have Htype:=Aa (fun W=>Qca ln W aI);have Htok:=Aa (fun t (h:E9 ln=some t)=>(Gc.1 h).1);clear Hlin;generalize E9 ln=ot at Hlin2 Htype Htok;go_wp2_with fail;refine(Htype.o _).mono ?_;rintro e w2 ⟨hcase,hb2⟩;have hbo:Below wo wo w2:=(below_drewN (Am _ _) k1).trans (by simpa using hb2);have Hbo:=Aa hbo;cases ot with
    |none=>
     obtain⟨pp,rfl⟩:=hcase;have Hend:=Aa (show Cb s=none by rw[HF.o,Hlin2.o]);go_wp2_with fail;refine Bo [45,46,47,48,49,50,51,52,53,54,55,56,57,58] aP aP aP (fun u=>by dsimp only[Cd,Bu,List.set,ao,Nat.reduceAdd])
      (fun i v W=>match i with|0=>v=.bool false|1=>v=.bool true|2=>v=.bool true|13=>v=.bool true|_=>True) (fun L U W=>∃q,W=(w2).drewN q) (fun _ _=>True) (fun _ _ _ _ _ h=>h) ⟨1,rfl⟩ ?_ ?_
     ·repeat (first|exact Ai.nil|(refine Ai.cons ?_ ?_;rotate_left))
      all_goals
       rintro L U W hL hpre ⟨q,rfl⟩ hun hdep K hK;clear hun hdep;first|(simp[Region.binds]at hpre;done)|simp[Region.binds]at hpre|clear hpre
       go_simp;first|exact hK _ _ _ rfl Ab ⟨q,rfl⟩ rfl|exact hK _ _ _ rfl Ab ⟨q,rfl⟩ aK|exact hK undef _ _ Ab Ab ⟨q,rfl⟩ aK|exact hK _ _ _ Ab Ab ⟨q,rfl⟩ rfl|exact hK _ _ _ Ab Ab ⟨q,rfl⟩ aK
     rintro L U W hL hφ ⟨q,rfl⟩;have e13:U 13=.bool true:=hφ 13 aL;simp only[e13];clear hφ hL;go_wp2_with fail;go_ret2;exact mq
    |some t=>
     obtain⟨x,hxt,rfl,hxb,hxty,hxf⟩:=hcase;subst hxt;have hxb2:wo.heap.size<=x.blk:=by simpa using hxb
     have hxz:x.blk<w2.heap.size:=hxty.1;have y1:w2.cell? (x.blk,1)=x.ty.name:=hxty.2.2.2.1;have u0:=(hbo.cell (p:=⟨w.heap.size+1,0,none⟩) (show w.heap.size+1<wo.heap.size by omega)).trans s0;have u1:=(hbo.cell (p:=⟨w.heap.size+1,1,none⟩) (show w.heap.size+1<wo.heap.size by omega)).trans s1;have Hnm2:=Aa (Dq.below hnm.o hbo);have Hxty:=Aa hxty;have Hxf:=Aa hxf;have Htk:=Aa (Htok.o x.ty rfl);have hnl:x.ty.name.length<=3:=(Dm.1 Htk.o.2.1).2.1;have hlook:∀q,(Instr.lookup 156 (.map (some w.heap.size)) x.ty.name false).run prog (w2.drewN q)=.ok (Qag (Fa xs x.ty.name)) (w2.drewN q):=fun q=>Fy (Dq.below Hnm2.o (below_drewN (Am _ _) q)) x.ty.name aI;have hz2:wo.heap.size<=w2.heap.size:=hbo.size;clear hbo s0 s1 hxty hxf;unfold PT.ptr;cases hfp:Fa xs x.ty.name with
     |some z=>
      have Hend:=Aa (show Cb s=none by
       rw[HF.o,Hlin2.o];have:(Ag xs).any (fun v=>decide (v.name=x.ty.name))=true:=by
        cases hh:(Ag xs).any (fun v=>decide (v.name=x.ty.name))with
        |true=>rfl
        |false=>rw[Yp.2 hh]at hfp;cases hfp
       simp[this])
      rw[hfp]at hlook;unfold Qag PT.ptr at hlook;clear hfp;go_wp2_with fail;refine Bo [45,46,47,48,49,50,51,52,53,54,55,56,57,58] aP aP aP (fun u=>by dsimp only[Cd,Bu,List.set,ao,Nat.reduceAdd])
       (fun i v W=>match i with|0=>v=.bool true|1=>v=.bool false|2=>v=.bool false|3=>v=(w,1,0)|4=>v=(w,1,0)|5=>v=(w,1,1)|6=>v=.map (some w.heap.size)|7=>v=x.blk|8=>v=x.blk|9=>v=(x.blk,1)|10=>v=x.ty.name|11=>v=z.blk|12=>v=.bool true|13=>v=.bool true|_=>True) (fun L U W=>∃q,W=(w2).drewN q) (fun _ _=>True) (fun _ _ _ _ _ h=>h) ⟨1,rfl⟩ ?_ ?_
      ·exact j8
      rintro L U W hL hφ ⟨q,rfl⟩;have e13:U 13=.bool true:=hφ 13 aL;simp only[e13];clear hφ hL;go_wp2_with fail;go_ret2;exact mq
     |none=>
      have Hany:=Aa (Yp.1 hfp);have Hfp:=Aa hfp;rw[hfp]at hlook;unfold Qag at hlook;clear hfp
      have Hlin3:=Aa (show Gj (s.length+1) s []=Gj fuel rest (Ag (xs++[x]))by
       rw[Hlin2.o];show (if _ then _ else _)=_;rw[if_neg (by rw[Hany.o];decide)];simp[Ag])
      go_wp2_with fail;refine Bo [45,46,47,48,49,50,51,52,53,54,55,56,57,58] aP aP aP (fun u=>by dsimp only[Cd,Bu,List.set,ao,Nat.reduceAdd])
       (fun i v W=>match i with|0=>v=.bool true|1=>v=.bool false|2=>v=.bool false|3=>v=(w,1,0)|4=>v=(w,1,0)|5=>v=(w,1,1)|6=>v=.map (some w.heap.size)|7=>v=x.blk|8=>v=x.blk|9=>v=(x.blk,1)|10=>v=x.ty.name|11=>v=.pointer none|12=>v=.bool false|13=>v=.bool false|_=>True) (fun L U W=>∃q,W=(w2).drewN q) (fun _ _=>True) (fun _ _ _ _ _ h=>h) ⟨1,rfl⟩ ?_ ?_
      ·exact j8
      rintro L U W hL hφ ⟨q,rfl⟩;have e13:U 13=.bool false:=hφ 13 aL;simp only[e13];clear hφ hL;obtain⟨w3,hw3⟩:∃w3,w3=w2.drewN q:=⟨_,rfl⟩
      rw[<-hw3];have hb3:Below wo wo w3:=by rw[hw3];exact below_drewN Hbo.o _
      have hb23:Below w2 w2 w3:=by rw[hw3];exact below_drewN (Am _ _) _
      have Hx3:=Aa (Hxty.o.below hb23);have hown3:=Cv hown.o hb3;have hT3:=Ah hT.o (show w.heap.size+1<wo.heap.size by omega) hb3;have hK3:=An hK.o (show w.heap.size+1<wo.heap.size by omega) hb3;have hz3:wo.heap.size<=w3.heap.size:=hb3.size;have v0:w3.cell? (w,1,0)=some (.slice A xs.length cA):=by simpa using Ac hT3 0 rfl
      have Hb3:=Aa hb3;have Hown3:=Aa hown3;have HT3:=Aa hT3;have HK3:=Aa hK3;have Hnm3:=Aa (Dq.below Hnm2.o hb23);have Hb23:=Aa hb23;clear hlook hb3 hown3 hT3 hK3 hw3 hb23 u0 u1 y1;go_wp2_with (at_builtin;refine Em _ rfl _ _ 155 rfl (w.heap.size+2) 100 (.pointer none) 8 underlying155 Tryz.infoPt rfl w3 x.blk rfl rfl (.slice A xs.length cA) xs.length (xs.map (·.ptr)) rfl rfl Hown3.o aY aI aI ?_;intro v5 w5 hown5 hg5 hwh;have hb5:Below (w.heap.size+2) w3 w5:=(Am _ _).grown hg5 aI (fun k hk=>(Hown3.o.lt k hk).1);have HT5:=Aa (Ah HT3.o (show w.heap.size+1<w.heap.size+2 by omega) hb5);have HK5:=Aa (An HK3.o (show w.heap.size+1<w.heap.size+2 by omega) hb5);have Hnm5:=Aa (Dq.belowAt Hnm3.o (show w.heap.size<w.heap.size+2 by omega) hb5);have Hty5:=Aa (Yz.push hty.o Hb3.o hown.o Hx3.o hxb2 (fun k hk=>(by have:=Hxf.o k hk;simpa using this)) aI hg5 hwh);obtain⟨A5,n5,c5,e5⟩:=Ew hown5;subst e5;have Hown5:=Aa hown5;have Hb5:=Aa hb5;have p0:w5.cell? (w,1,0)=some (.slice A xs.length cA):=(by simpa using Ac HT5.o 0 rfl);have f0:w5.frozen? (w,1,0)=false:=(by simpa using(HK5.o 0 aL).2);have hz5:w3.heap.size<=w5.heap.size:=hg5.size;clear hown5 hg5 hwh hb5 v0)
      obtain⟨w6,hw6⟩:∃w6,w6=w5.setCell ⟨w.heap.size+1,0,none⟩ (.slice A5 n5 c5):=⟨_,rfl⟩
      rw[<-hw6];have hg6:w5.grownBy w6 (some (w.heap.size+1)):=by rw[hw6];exact Md _ _ _
      have hT6:w6.rangeAt (w.heap.size+1) 0 [.slice A5 n5 c5,.map (some w.heap.size)]:=by rw[hw6];exact Ck [] [.slice A xs.length cA] [.map (some w.heap.size)] [.slice A5 n5 c5] HT5.o rfl
      have hK6:w6.there (w.heap.size+1) 0 2:=by rw[hw6];exact aj HK5.o (w.heap.size+1) 0 [.slice A5 n5 c5]
      have Hown6:=Aa (Hown5.o.kept hg6 (.inr (fun e=>by have:=(Hown5.o.lt _ e).1;omega)));have Hnm6:=Aa (Dq.kept Hnm5.o hg6 aN);have Hty6:=Aa (Hty5.o.far hg6 aI);have Hb6:=@Aa (Below w w w6) (((hbr.o.trans (Hb3.o.mono aI)).trans (Hb5.o.mono aI)).trans (by rw[hw6];exact(Am _ _).setCell aN _));have hz6:w.heap.size+2<=w6.heap.size:=ae aI hg6.size;have m1:w6.cell? (w,1,1)=some (.map (some w.heap.size)):=by simpa using Ac hT6 1 rfl
      have n1:w6.cell? (x.blk,1)=x.ty.name:=(Hty6.o.1 x aN).1.2.2.2.1;have HT6:=Aa hT6;have HK6:=Aa hK6;clear hw6 hg6 hT6 hK6 p0 f0;refine Bo [69,70,71,72,73,74,75,76,77,999] aP aP aP (fun u=>by dsimp only[Cd,Bu,List.set,ao,Nat.reduceAdd])
       (fun i v W=>match i with|0=>v=(w,1,0)|1=>v=(w,1,0)|2=>v=(w,1,1)|3=>v=.map (some w.heap.size)|4=>v=x.blk|5=>v=x.blk|6=>v=(x.blk,1)|7=>v=x.ty.name|8=>v=x.blk|_=>True) (fun L U W=>∃q,(L 9=false->W=w6.drewN q)/\(L 9=true->(w6.drewN q).grownBy W (some w.heap.size)/\Qt W w.heap.size (xs++[x]))) (fun _ _=>True) (fun _ _ _ _ _ h=>h) ⟨1,fun _=>rfl,by simp⟩ ?_ ?_
      ·repeat (first|exact Ai.nil|(refine Ai.cons ?_ ?_;rotate_left))
       all_goals
        rintro L U W hL hpre ⟨q,hq1,hq2⟩ hun hdep K hK;have Hdep:=Aa hdep;have Hq2:=Aa hq2;clear hun hdep hq2;first|(simp[Region.binds]at hpre;done)|simp[Region.binds]at hpre|clear hpre
       ·obtain rfl:=hq1 (At Hdep.o 9 3 rfl (At Hdep.o 3 2 rfl (At Hdep.o 2 1 rfl (At Hdep.o 1 0 rfl hL))));exact mr
       ·obtain rfl:=hq1 (At Hdep.o 9 3 rfl (At Hdep.o 3 2 rfl (At Hdep.o 2 1 rfl hL)));exact mr
       ·obtain rfl:=hq1 (At Hdep.o 9 3 rfl (At Hdep.o 3 2 rfl hL));exact mr
       ·obtain rfl:=hq1 (At Hdep.o 9 3 rfl hL);exact mr
       ·obtain rfl:=hq1 (At Hdep.o 9 7 rfl (At Hdep.o 7 6 rfl (At Hdep.o 6 5 rfl (At Hdep.o 5 4 rfl hL))));exact mr
       ·obtain rfl:=hq1 (At Hdep.o 9 7 rfl (At Hdep.o 7 6 rfl (At Hdep.o 6 5 rfl hL)));exact mr
       ·obtain rfl:=hq1 (At Hdep.o 9 7 rfl (At Hdep.o 7 6 rfl hL));exact mr
       ·obtain rfl:=hq1 (At Hdep.o 9 7 rfl hL);exact mr
       ·obtain rfl:=hq1 (At Hdep.o 9 8 rfl hL);exact mr
       ·obtain rfl:=hq1 hL;obtain⟨w7,hrun,r1,r2⟩:=Dq.store (Dq.below Hnm6.o (below_drewN (Am _ _) q)) Tryz.keyStr underlying156 aY x.blk (Qf9 (n:=x.ty.name) aI);have hn7:Qt w7 w.heap.size (xs++[x]):=by
         unfold Qt;rw[ai];exact r1.of_eq (fun l hl=>Qds Hfp.o l hl)
        have R2:=Aa r2;have Hn7:=Aa hn7;clear r1 r2 hn7;go_simp;exact hK undef _ _ Ab Ab ⟨q,fun h=>by simp at h,fun _=>⟨R2.o,Hn7.o⟩⟩ aK
      rintro L U W hL hφ ⟨q,_,hq2⟩;obtain⟨hg7,hn7⟩:=hq2 (hL 9 aL);have hzq:w6.heap.size<=W.heap.size:=by have:=hg7.size;simpa using this
      have hb7:Below w w W:=(below_drewN Hb6.o q).grown hg7 aO (fun k hk=>by injection hk with hk;omega);have HT7:=Aa (C5 (Ah HT6.o (show w.heap.size+1<w6.heap.size by omega) (below_drewN (Am _ _) q)) hg7 aN);have HK7:=Aa (Eo (An HK6.o (show w.heap.size+1<w6.heap.size by omega) (below_drewN (Am _ _) q)) hg7 aO aN);have Hown7:=Aa ((Cv Hown6.o (below_drewN (Am _ _) q)).kept hg7 (.inr (fun e=>by have:=(Hown6.o.lt _ e).1;omega)));have Hty7:=Aa ((Hty6.o.below (below_drewN (Am _ _) q)).far hg7 aI);have Hn7:=Aa hn7;have Hb7:=Aa hb7;clear hL hφ hq2 hg7 hn7 hb7 m1 n1;go_wp2_with fail;go_roundw
      case rel=>exact⟨rest,fuel,xs++[x],.slice A5 n5 c5,rfl,by omega,by omega,Hlin3.o,by simp;omega,HT7.o,HK7.o,by rw[ai,aA];exact Hown7.o,Hn7.o,Hty7.o,Hb7.o,by omega⟩
      case measure=>rw[Mj,Mj];omega
theorem Yd(s:List UInt8)(w:World)(hs:s.length<=4000000):
  Calls prog 95 #[s] w (Jr (Cb s) w):=by
 by_cases h:400<s.length
 ·exact Qb1 s w hs h
 exact Qet s w aI
end
end Go.Proofs.YtpjijpcemejlnaaGreatDoor
