/- Texts joined. Conditions: as each theorem names them. -/
import Derived.Deep.MidRow
import Derived.Test.YtmmhmlmfhpfgbaaGreatDoorF25
set_option maxRecDepth 100000
set_option maxHeartbeats 32000000
set_option linter.unusedVariables false
set_option linter.unusedSimpArgs false
namespace Go.Proofs.YtmmhmlmfhpfgbaaGreatDoor
open Go.RowKit Go.Proofs.Tryz
theorem Tryz.xtraJ:Builder.Extra prog Tryz.lays156_ren where
 sizeBuilder:=aN
 liesBuilder:=aN
 t5:=underlying5
 a5:=isAgg5
 z5:=sizeOf5
 v5:=zeroValue5
 infoByte:=aN
 cellsByte:=aN
 sizeByte:=aN
 neB5:=aJ
theorem Zq(c:UInt8):∀ps:List (List UInt8),Lib.join ps [c]=Aw c ps
 |[]=>rfl
 |[p]=>by rw[Lib.join_one];rfl
 |p::q::r=>by
  have ih:=Zq c (q::r);rw[Cy c p aK,<-ih,Lib.join_cons p,Lib.join_cons q];simp[Lib.joinTail]
theorem Qgz(ps:List (List UInt8)):ps.length<=Dh ps:=by
 induction ps with
 |nil=>exact An _
 |cons p ps ih=>rw[D7,List.length_cons];omega
theorem Qm5(sep:List UInt8)(A:Option Addr)(c:Nat)(ps:List (List UInt8))(w:World)(hr:B0 w A ps.length (By ps))(hcp:ps.length<=c)(hl:Dh ps<=2000000)(hj:(Lib.join ps sep).length<=2000000):
  Calls prog 92 #[.slice A ps.length c,sep] w fun e w'=>e=.returned (.string ⟨(Lib.join ps sep).toArray⟩)/\Below w w w':=by
 by_cases h0:ps.length=0
 ·have e0:ps=[]:=List.length_eq_zero_iff.1 h0;subst e0;exact(Any.strings_Join_none Tryz.lays156 Tryz.xtraJ A c ⟨sep.toArray⟩ w).mono fun e w' ⟨he,hw⟩=>⟨he,hw ▸ Ao _ _⟩
 have hpl:=Qgz ps;obtain⟨hlc,_,hrow⟩:=hr;obtain⟨b,off,rfl,hb,hcl⟩:=hrow aH;have e1:(ps.map fun p=>(⟨p.toArray⟩:ByteArray)).map (·.data.toList)=ps:=by rw[List.map_map];exact List.map_id ps
 have h:=Any.strings_Join Tryz.lays156 Tryz.xtraJ b off c (ps.map fun p=>(⟨p.toArray⟩:ByteArray)) ⟨sep.toArray⟩ w (fun j x hx=>by
  rw[List.getElem?_map]at hx;obtain⟨p,hp,rfl⟩:=Option.map_eq_some_iff.1 hx;exact hcl j _ (by rw[By,List.getElem?_map,hp];rfl)) hb (by rw[List.length_map];omega) (by rw[List.length_map];exact hcp) (by rw[e1];show (Lib.join ps sep).length<=_;omega)
 rw[e1,List.length_map]at h;exact h
theorem Qnb(s:UInt8)(A:Option Addr)(c:Nat)(ps:List (List UInt8))(w:World)(hr:B0 w A ps.length (By ps))(hcp:ps.length<=c)(hl:Dh ps<=2000000):
  Calls prog 92 #[.slice A ps.length c,.string ⟨#[s]⟩] w fun e w'=>e=.returned (.string ⟨(Aw s ps).toArray⟩)/\Below w w w':=by
 have:=Qm5 [s] A c ps w hr hcp hl (by rw[Zq,Bw];omega);rwa [Zq]at this
theorem Qm4(A:Option Addr)(c:Nat)(ps:List (List UInt8))(w:World)(hr:B0 w A ps.length (By ps))(hcp:ps.length<=c)(hl:Dh ps<=2000000):
  Calls prog 92 #[.slice A ps.length c,.string ⟨#[44]⟩] w fun e w'=>e=.returned (.string ⟨(Aw 44 ps).toArray⟩)/\Below w w w':=Qnb 44 A c ps w hr hcp hl
section
attribute [local go_sem] Qoe Qnf Qmu Qk2 ByteArray.mk_append_mk
inductive Bd:Vl->Prop
 |mk {w:UInt8} {tx:List UInt8} {tg:Nat} {ks:List Vl} (h1:tg<=1000000000) (h2:Dh (ks.map Az)<=1000000) (h3:tx.length<=1000000) (h:∀x∈ks,Bd x):Bd (.mk w tx tg ks)
theorem Sk{w:World}{base k n:Nat}{e:TypeId}{v:Value}{xs:List Value}(h:w.ownsRow base e k v n xs):∃A m c,v=.slice A m c:=by
 rcases h.2 with⟨rfl,_⟩|⟨g,cap,cur,rfl,_⟩
 ·exact⟨_,_,_,rfl⟩
 exact⟨_,_,_,rfl⟩
theorem Qll{w:World}{base n m c:Nat}{e:TypeId}{A:Option Addr}{xs:List Value}(h:w.ownsRow base e 1 (.slice A m c) n xs):m=n/\n<=c\/n=0/\m=0:=by
 rcases h.2 with⟨e,h0⟩|⟨g,cap,cur,e,_,_,hnc,_⟩
 ·injection e with _ e1 e2;exact .inr ⟨h0,e1⟩
 injection e with _ e1 e2;subst e1 e2;exact .inl ⟨rfl,hnc⟩
theorem Qnc(w:UInt8)(tx:List UInt8)(tg:Nat)(ps:List (List UInt8)):H4 w tx tg ps=if w=116 then 39::(tx++[39])
  else if w=91 then 91::(Aw 44 ps++[93])else if w=63 then(if ps.length=0 then[45]else 43::Aw 44 ps)else if w=61 then Ba tg++61::Aw 44 ps else if w=82 then 123::(Aw 44 ps++[125])
  else if w=85 then 60::(Ba tg++61::(Aw 44 ps++[62]))else if w=69 then 35::Ba tg else tx:=by
 unfold H4;cases ps<;>rfl
theorem Qex(P:Nat->Prop)(v:Vl)(sl:Value)(w:World)(h:Ea P w sl v.kids)(hb:Bd v)
  (ih:∀x∈v.kids,∀s W,Ea P W s x.kids->Calls prog 44 #[Ec x s] W fun e w'=>e=.returned (.string ⟨(Az x).toArray⟩)/\Below W W w'):
  Calls prog 44 #[Ec v sl] w fun e w'=>e=.returned (.string ⟨(Az v).toArray⟩)/\Below w w w':=by
 have Ih:=Aa ih;obtain⟨wh,tx,tg,ks⟩:=v;obtain⟨h1,h2,h3,_⟩:=hb;have HF:=Aa (Mq wh tx tg ks);simp only[Vl.kids]at h;have Ih:=@Aa (∀x∈ks,∀s W,Ea P W s x.kids->_) ih;obtain⟨A,c,xs,rfl,rfl,hl,hr,hP,hk⟩:=h;have Hr:=Aa hr;have Hk:=Aa hk;have hxl:(Bc xs).length=xs.length:=by simp[Bc]
 have Hd:=Aa (fun W=>Qj tg tg W (An _) h1);clear hr hk ih hP;unfold Ec;simp only[Vl.what,Vl.text,Vl.tag];go_enter func44,ntmps44;go_wp2_with fail;obtain⟨w1,hw1⟩:∃w1,w1=w.alloc (.cells #[.int .u8 (wh.toNat:Int),tx,(tg:Int),.slice A xs.length c] 68):=⟨_,rfl⟩
 rw[<-hw1];have c0:w1.cell? (w,0)=some (.int .u8 (wh.toNat:Int)):=eJ;have c1:w1.cell? (w,1)=tx:=eJ;have c2:w1.cell? (w,2)=(tg:Int):=eJ;have c3:w1.cell? (w,3)=some (.slice A xs.length c):=eJ;have hz1:w1.heap.size=w.heap.size+1:=eJ;have Hb1:=Aa (show Below w w w1 by rw[hw1];exact(Ao _ _).alloc (An _) _);have Hr1:=Aa (Hr.o.below Hb1.o);have Hk1:=Aa (fun x hx=>(Hk.o x hx).after Hb1.o);have hB:w.heap.size<w1.heap.size:=aH;generalize hB0:w.heap.size=B at *;have HB0:=Aa hB0;clear hB0;clear hw1 Hr Hk;go_loopw [10,3] (fun i u wr=>∃(m:Nat) (A3:Option Addr) (n3 q3:Nat),i=.int .i64 m/\u=.slice A3 n3 q3/\m<=xs.length/\Hid (wr.ownsRow w1 9 1 (.slice A3 n3 q3) m (By ((xs.take m).map fun x=>Az x.1)))/\Hid (Below w1 w1 wr)) (fun i _ _=>xs.length - (intOf i).toNat)
 case atStart=>exact⟨0,none,0,0,rfl,rfl,ag _,World.ownsRow_nil _ _ _ _,Ao _ _⟩
 case round=>
  obtain⟨m,A3,n3,q3,rfl,rfl,hm,Hown,Hbr⟩:=hrel;have m1:(0:Int)<=(m:Int):=aH;by_cases hlt:m<xs.length
  ·have m2:(m:Int)<(xs.length:Int):=aH;obtain⟨b,off,rfl,hb,d0,d1,d2,d3⟩:=Ea.at_ (Hr1.o.below Hbr.o) hlt;have hkx:=(Hk1.o _ (ae hlt)).after Hbr.o;have Hkx:=Aa hkx;have Hmx:=@Aa (xs[m].1∈Bc xs) (ap (ae hlt));have Hts:=Aa (Cb xs m hlt);have hsz:w1.heap.size<=wr.heap.size:=Hbr.o.size;have hbn:¬(b=wr.heap.size):=aH;clear hkx;generalize xs[m]=x at *;obtain⟨y,ys⟩:=x;obtain⟨A7,c7,e7⟩:=Hkx.o.form;simp only at e7 d0 d1 d2 d3 Hkx Hmx;subst e7;have Hx:=Aa (fun W=>Ih.o y Hmx.o (.slice A7 y.kids.length c7) W);unfold Ec at Hx;go_wp2_with fail;refine(Hx.o _ (Hkx.o.after ((Ao _ _).alloc (An _) _))).mono ?_;rintro e w3 ⟨rfl,hb3⟩;have Hb3:=Aa (((Ao _ _).alloc (An _) _).trans (hb3.mono aK));have Ho3:=Aa (Ct Hown.o Hb3.o);have hs3:w1.heap.size<=w3.heap.size:=ad hsz Hb3.o.size;clear hb3;go_wp2_with (at_builtin;refine Nm _ rfl _ _ 57 rfl w1 9 a6 16 underlying57 Po rfl w3 (.string ⟨(Az y).toArray⟩) rfl rfl (.slice A3 n3 q3) m (By ((xs.take m).map fun x=>Az x.1)) rfl rfl Ho3.o aU aH hs3 ?_;intro v' w5 hown5 hb5;obtain⟨A5,n5,c5,rfl⟩:=Sk hown5;have Ho:=Aa hown5;have Hb5:=Aa hb5;clear hown5 hb5)
   go_roundw
   case rel=>exact⟨m+1,A5,n5,c5,by go_num,rfl,by omega,(by rw[Hts.o,az,Qak];exact Ho.o),(Hbr.o.trans (Hb3.o.mono hsz)).trans Hb5.o⟩
   case measure=>simp[intOf];omega
  ·obtain rfl:m=xs.length:=aH;have hown6:=Hown.o;rw[List.take_length]at hown6;have hrow:=B0.own hown6;obtain⟨A6,c6,e6,hr6⟩:=hrow;have hcap:=Qll hown6;injection e6 with e7 e8 e9;subst e7 e8 e9;have Hps:=Aa (show (xs.map fun x=>Az x.1)=(Bc xs).map Az by simp[Bc]);have hpl:(xs.map fun x=>Az x.1).length=xs.length:=aK
   have Hj:=Aa (fun W (hW:B0 W A3 xs.length (By (xs.map fun x=>Az x.1)))=>(by
    have:=Qm4 A3 q3 (xs.map fun x=>Az x.1) W (by rw[hpl];exact hW) (by rw[hpl];omega) (by rw[Hps.o];omega);rw[hpl]at this;exact this:Calls prog 92 #[.slice A3 xs.length q3,.string ⟨#[44]⟩] W fun e w'=>e=.returned (.string ⟨(Aw 44 (xs.map fun x=>Az x.1)).toArray⟩)/\Below W W w'))
   have HF:=Aa (show Az (.mk wh tx tg (Bc xs))=_ by rw[HF.o,<-Hps.o,Qnc,hpl]);have hjl:(Aw 44 (xs.map fun x=>Az x.1)).length<=1000000:=by rw[Bw,Hps.o];omega
   have hdl:(Ba tg).length<=11:=Da 10 tg (by have e:10 ^ (10+1)=100000000000:=rfl;omega);generalize (xs.map fun x=>Az x.1)=ps at *;generalize Aw 44 ps=jt at *;have Hr6:=Aa hr6;have Hb6:=Aa (Hb1.o.trans (Hbr.o.mono aH));clear hown6 hr6 hcap Hps hpl Hown Ih Hk1 Hr1;go_wp2_with fail;refine(Hj.o _ Hr6.o).mono ?_;rintro e w4 ⟨rfl,hb4⟩;have Hb4:=Aa (Hb6.o.trans (hb4.mono fK));have hc4:=fun j=>(hb4.cell (p:=⟨B,j,none⟩) (show B<wr.heap.size by have:=Hbr.o.size;omega)).trans (Hbr.o.cell (p:=⟨B,j,none⟩) hB);have g0:=(hc4 0).trans c0;have g1:=(hc4 1).trans c1;have g2:=(hc4 2).trans c2;have g3:=(hc4 3).trans c3;clear hc4 hb4 Hj Hr6 Hb6 Hbr Hb1;by_cases a116:wh=116
   ·have HF:=Aa (HF.o.trans (if_pos a116));have t116:((wh.toNat:Int) == 116)=true:=Bj (d:=116) a116;clear a116;go_wp2_with fail;exact ll
   have HF:=Aa (HF.o.trans (if_neg a116));have t116:((wh.toNat:Int) == 116)=false:=Ap (d:=116) a116;clear a116;by_cases a91:wh=91
   ·have HF:=Aa (HF.o.trans (if_pos a91));have t91:((wh.toNat:Int) == 91)=true:=Bj (d:=91) a91;clear a91;go_wp2_with fail;exact ll
   have HF:=Aa (HF.o.trans (if_neg a91));have t91:((wh.toNat:Int) == 91)=false:=Ap (d:=91) a91;clear a91;by_cases a63:wh=63
   ·have HF:=Aa (HF.o.trans (if_pos a63));have t63:((wh.toNat:Int) == 63)=true:=Bj (d:=63) a63;clear a63;by_cases h0:xs.length=0
    ·have e0:((xs.length:Int) == 0)=true:=by simp[h0]
     have HF:=Aa (HF.o.trans (if_pos h0));clear h0;go_wp2_with fail;exact lm
    have e0:((xs.length:Int) == 0)=false:=cq;have HF:=Aa (HF.o.trans (if_neg h0));clear h0;go_wp2_with fail;exact lm
   have HF:=Aa (HF.o.trans (if_neg a63));have t63:((wh.toNat:Int) == 63)=false:=Ap (d:=63) a63;clear a63;by_cases a61:wh=61
   ·have HF:=Aa (HF.o.trans (if_pos a61));have t61:((wh.toNat:Int) == 61)=true:=Bj (d:=61) a61;clear a61;go_wp2_with fail;refine(Hd.o _).mono ?_;rintro e w5 ⟨rfl,hb5⟩;have Hb4:=Aa (Hb4.o.trans (hb5.mono eE));clear hb5;go_wp2_with fail;exact ll
   have HF:=Aa (HF.o.trans (if_neg a61));have t61:((wh.toNat:Int) == 61)=false:=Ap (d:=61) a61;clear a61;by_cases a82:wh=82
   ·have HF:=Aa (HF.o.trans (if_pos a82));have t82:((wh.toNat:Int) == 82)=true:=Bj (d:=82) a82;clear a82;go_wp2_with fail;exact ll
   have HF:=Aa (HF.o.trans (if_neg a82));have t82:((wh.toNat:Int) == 82)=false:=Ap (d:=82) a82;clear a82;by_cases a85:wh=85
   ·have HF:=Aa (HF.o.trans (if_pos a85));have t85:((wh.toNat:Int) == 85)=true:=Bj (d:=85) a85;clear a85;go_wp2_with fail;refine(Hd.o _).mono ?_;rintro e w5 ⟨rfl,hb5⟩;have Hb4:=Aa (Hb4.o.trans (hb5.mono eE));clear hb5;go_wp2_with fail;exact ll
   have HF:=Aa (HF.o.trans (if_neg a85));have t85:((wh.toNat:Int) == 85)=false:=Ap (d:=85) a85;clear a85;by_cases a69:wh=69
   ·have HF:=Aa (HF.o.trans (if_pos a69));have t69:((wh.toNat:Int) == 69)=true:=Bj (d:=69) a69;clear a69;go_wp2_with fail;refine(Hd.o _).mono ?_;rintro e w5 ⟨rfl,hb5⟩;have Hb4:=Aa (Hb4.o.trans (hb5.mono eE));clear hb5;go_wp2_with fail;exact ll
   have HF:=Aa (HF.o.trans (if_neg a69));have t69:((wh.toNat:Int) == 69)=false:=Ap (d:=69) a69;clear a69;go_wp2_with fail;exact lm
theorem Py(P:Nat->Prop){v:Vl}(hb:Bd v):∀(sl:Value) (w:World),Ea P w sl v.kids ->
  Calls prog 44 #[Ec v sl] w fun e w'=>e=.returned (.string ⟨(Az v).toArray⟩)/\Below w w w':=by
 induction hb with
 |mk h1 h2 h3 h ih=>exact fun sl w hk=>Qex P _ sl w hk (.mk h1 h2 h3 h) fun x hx s W hs=>ih x hx s W hs
section
variable {P:Program}
theorem Bh{fn:Func}{p:Tmp}{ty:TypeId}(h:fn.results=#[.cell p ty])(tmps:Array Value)(w:World)(b:Nat)(cs:List Value)(d:TypeDesc)
  (hp:tmps.getD p undef=b) (hc:w.rangeAt b 0 cs) (hu:P.underlying ty=some d) (hd:d.isRow=true) (hi:(P.info? ty).map (·.size)=some cs.length):
  (results fn tmps).run P w=.ok (.agg cs.toArray) w:=by
 have hp':tmps[p]?.getD undef=b:=ef;simp[results,h,hp',asAddr,run_loadVar_mid w b 0 ty cs d hc hu hd hi]
end
theorem Ki(b nm:ByteArray)(w:World):Calls prog 83 #[.agg #[a6,.string b,.string nm]] w fun e w'=>e=.returned (.int .u8 0)/\Below w w w':=by
 go_enter func83,ntmps83;go_wp2_with fail;go_ret;exact⟨rfl,(Ao _ _).alloc (An _) _⟩
theorem My(c:UInt8)(t:List UInt8)(hl:t.length<=1000)(b nm:ByteArray)(w:World):Calls prog 83 #[.agg #[.string ⟨(c::t).toArray⟩,.string b,.string nm]] w fun e w'=>e=.returned (.int .u8 (c.toNat:Int))/\Below w w w':=by
 go_enter func83,ntmps83;go_wp2_with fail;go_ret;exact⟨rfl,(Ao _ _).alloc (An _) _⟩
theorem Vr(k:Kd)(w:World)(c:UInt8)(t:List UInt8)(hs:k.signs=c::t)(hl:t.length<=1000):
  Calls prog 86 #[D9 k] w fun e w'=>e=.returned (D9 k.part)/\Below w w w':=by
 have hp:k.part=⟨t,k.base,k.name⟩:=by unfold Kd.part;rw[hs];rfl
 rw[hp];unfold D9;rw[hs];clear hp hs;go_enter func86,ntmps86;go_wp2_with fail;refine aF (v:=.agg ([t,k.base,k.name]:List Value).toArray) ?_ rfl ?_
 ·refine Bh results86 _ _ (w.heap.size+1) _ _ rfl ?_ underlying60 rfl aN;intro j v hv;match j,hv with
  |0,hv=>simp at hv;subst hv;simp[go_sem]
  |1,hv=>simp at hv;subst hv;simp[go_sem]
  |2,hv=>simp at hv;subst hv;simp[go_sem]
  |n+3,hv=>simp at hv
 exact⟨rfl,((Ao _ _).alloc (An _) _).alloc aK _⟩
theorem Qbm{w W:World}{row:Option Nat}{B o:Nat}(h:w.grownBy W row)(hB:w.heap.size<=B):∀(cs:List Value) (o:Nat),w.grownBy (W.setCells B o cs) row:=by
 intro cs;induction cs generalizing W with
 |nil=>intro o;exact h
 |cons v cs ih=>
  intro o;refine ih (W:=W.setCell ⟨B,o,none⟩ v) ⟨h.os,h.tape,h.output,by simpa using h.size,fun k hk hne=>?_⟩ (o+1);rw[Go.heap_setCell_other _ _ _ _ (show k≠B by omega)];exact h.block k hk hne
theorem Dz.trans{w w1 w2:World}{b:Nat}{p:Value}{t t':List UInt8}{x y:Bool}(h1:Dz w b p t x w1)(h2:Dz w1 b p t' y w2):Dz w b p t' y w2:=⟨h2.1,h1.2.trans h2.2⟩
theorem Dz.pre{w w1 w2:World}{b:Nat}{p:Value}{t:List UInt8}{x:Bool}(hb:Below w w w1)(h:Dz w1 b p t x w2):Dz w b p t x w2:=⟨h.1,(Ci hb _).trans h.2⟩
theorem Dz.post{w w1 w2:World}{b:Nat}{p:Value}{t:List UInt8}{x:Bool}(h:Dz w b p t x w1)(hb:Below w1 w1 w2):Dz w b p t x w2:=⟨h.1.grow hb,h.2.trans (Ci hb _)⟩
theorem Dz.set{w W:World}{b B:Nat}{p:Value}{t:List UInt8}{x:Bool}(h:Dz w b p t x W)(hB:w.heap.size<=B)(hne:B≠b)(cs:List Value):Dz w b p t x (W.setCells B 0 cs):=by
 obtain⟨⟨h0,h1,h2,h3,h4⟩,hg⟩:=h;have hk:(W.setCells B 0 cs).heap[b]?=W.heap[b]?:=(Br B cs 0 W).block b h0 (by simpa using hne.symm);have hc:∀o,(W.setCells B 0 cs).cell? ⟨b,o,none⟩=W.cell? ⟨b,o,none⟩:=fun o=>World.cell?_of_block (a:=⟨b,o,none⟩) hk;obtain⟨c1,t1,e1⟩:=h1;exact⟨⟨by rw[Ch];exact h0,⟨c1,t1,hk.trans e1⟩,(hc 0).trans h2,(hc 1).trans h3,(hc 2).trans h4⟩,Qbm (o:=0) hg hB cs 0⟩
theorem Dz.env{w0 w w1:World}{b:Nat}{p:Value}{t:List UInt8}{x:Bool}(h:Dz w b p t x w1)(h0:Below w0 w0 w)(hb:w0.heap.size<=b):Below w0 w0 w1:=
 h0.grown h.2 h0.size fun k hk=>by injection hk with hk;omega
theorem Ea.set{P:Nat->Prop}{w:World}{v:Value}{ks:List Vl}(h:Ea P w v ks){B:Nat}(hB:¬P B)(cs:List Value):Ea P (w.setCells B 0 cs) v ks:=
 h.grown (Br B cs 0 w) fun b hb e=>by injection e with e;subst e;exact hB hb
def M4(w:World)(b:Nat)(p:Value)(t:List UInt8)(N:Nat)(r:Option (Vl × List UInt8))(e:Ending)(w':World):Prop:=
 ∃(v:Vl) (sl:Value) (t':List UInt8),e=.returned (Ec v sl)/\Ea (fun b=>w.heap.size<=b) w' sl v.kids/\Dz w b p t' r.isNone w'/\(∀x,r=some x->v=x.1/\t'=x.2)/\Bd v/\t'.length<=t.length/\(Az v).length+t'.length<=t.length+8*N
def Et:Vl:=.mk 0 [] 0 []
theorem Fo{w:UInt8}{tx:List UInt8}{tg:Nat}(h1:tg<=1000000000)(h3:tx.length<=1000000):Bd (.mk w tx tg []):=.mk h1 dJ h3 aK
theorem Qfi(c:UInt8)(r nm rest:List UInt8)(w:World)(hs:r.length<=3999999)(hc:Eh c)(h:Dl 61 r=(nm,rest,true))(hn:Be nm=true)(hr:rest≠[]):
  Calls prog 120 #[.string ⟨(c::r).toArray⟩] w (Ft (Fa (c::r)) w):=by
 have HF:=Aa (Qbv hc h hn hr)
 have Hc:=Aa (fun W=>(show Calls prog 173 #[.string ⟨#[82,85,69]⟩,.string ⟨#[c]⟩] W fun e w'=>e=.returned (.bool true)/\W=w' from by
  have:=Pp [82,85,69] c W;rw[Zx,aD hc]at this;exact this))
 have Hcut:=Aa (fun W=>Tp r 61 W aH);have hcl:=Mo 61 r;have Hcut2:=Aa h;rw[h]at Hcut hcl;simp only at hcl;have hcl1:=hcl.1;have hcl2:=hcl.2;have Hname:=Aa (fun W=>Mn nm W aH);rw[hn]at Hname;have Hsp:=Aa (fun W=>Vu rest 44 W aH);have hne:=Ew 44 rest;have Hpl:=Aa (Aq 44 rest);have Hln:=Aa (Jn 44 rest);generalize Al 44 rest=ps at HF Hsp hne Hpl Hln;have Hcs:=Aa hc;have hpsl:ps.length<=4000000:=by have:=Hln.o;omega
 have hr1:rest.isEmpty=false:=dz;have hr2:(rest == [])=false:=dz;clear h hn hr hc hcl;go_enter func120,ntmps120;go_wp2_with fail;refine(Hc.o _).mono ?_;rintro e w' ⟨rfl,rfl⟩;go_wp2_with fail;refine(Hcut.o _).mono ?_;rintro e w1 ⟨rfl,k1,rfl⟩;unfold Qdm;go_wp2_with fail;refine(Hname.o _).mono ?_;rintro e w2 ⟨rfl,hb2⟩;have Hb2:=@Aa (Below w w w2) ((below_drewN (Ao _ _) k1).trans (by simpa using hb2));have hz2:=Hb2.o.size;clear hb2;go_wp2_with fail;refine(Hsp.o _).mono ?_;rintro e w3 ⟨v,rfl,ho,hb3⟩;obtain⟨g,cg,rfl,hg1,hg2,hcells⟩:=N0 ho hne;have hg1':w2.heap.size+1<=g:=by simpa using hg1
 have hz3:w2.heap.size<w3.heap.size:=aH;have HT0:=@Aa (w3.rangeAt w2 0 [.int .u8 (c.toNat:Int),nm,.slice none 0 0,.string ⟨(c::r).toArray⟩]) (Ah (Bo w2 _ _) aK hb3);have HK0:=@Aa (w3.there w2 0 4) (Aj (Bz w2 [.int .u8 (c.toNat:Int),nm,.slice none 0 0,.string ⟨(c::r).toArray⟩] _) aK hb3);have HB0:=@Aa (Qe w3 w2.heap.size) ((Qe.new w2 _ _).belowAt aK hb3);have Hb3:=@Aa (Below w w w3) ((Hb2.o.alloc Hb2.o.size _).trans (hb3.mono aM));have Hcells:=@Aa (∀j (hj:j<ps.length),w3.cell? ⟨g,j,none⟩=some (.string ⟨ps[j].toArray⟩)) hcells;have Hown0:=Aa (World.ownsRow_nil w3 w3 97 6);clear ho hb3 hcells hg1 hne;go_wp2_with fail
 go_loopw [53] (fun i wr=>∃(k:Nat) (acc:List Fd) (fv:Value),i=.int .i64 k/\k<=ps.length/\acc.length<=8/\Hid (Fa (c::r)=Qla c nm (Fx c (ps.drop k) acc)) /\
   Hid (wr.ownsRow w3 97 6 fv acc.length (acc.flatMap Rt))/\Hid (Below w w wr)/\w3.heap.size<=wr.heap.size /\
   Hid (∀j (hj:j<ps.length),wr.cell? ⟨g,j,none⟩=some (.string ⟨ps[j].toArray⟩)) /\
   Hid (wr.rangeAt w2 0 [.int .u8 (c.toNat:Int),nm,fv,.string ⟨(c::r).toArray⟩])/\Hid (wr.there w2 0 4)/\Hid (Qe wr w2.heap.size)) (fun i _=>ps.length - (intOf i).toNat)
 case atStart=>exact⟨0,[],.slice none 0 0,rfl,ag _,by simp,HF.o,Hown0.o,Hb3.o,An _,Hcells.o,HT0.o,HK0.o,HB0.o⟩
 case round=>
  obtain⟨wo,rfl⟩:∃wo:World,wo=wr:=⟨_,rfl⟩
  obtain⟨k,acc,fv,rfl,hk,ha8,hft,hown,hbr,hzr,hpr,hT,hK,hB⟩:=hrel;have i1:(0:Int)<=(k:Int):=aH;obtain⟨A,cA,rfl,hrow⟩:=B0.ownK hown.o aU;have Hrow:=Aa hrow;have t0:wo.cell? (w2,0)=some (.int .u8 (c.toNat:Int)):=by simpa using Ab hT.o 0 rfl
  have t2:wo.cell? (w2,2)=some (.slice A acc.length cA):=by simpa using Ab hT.o 2 rfl
  clear hrow;by_cases hlt:k<ps.length
  ·have i2:(k:Int)<(ps.length:Int):=aH;have cell:=hpr.o k hlt;have hft2:=Aa ((Qb2 (c:=c) (acc:=acc) hlt) ▸ hft.o);have hplk:=Hpl.o _ (ae hlt);generalize ps[k]=p at cell hft2 hplk;have Hread:=Aa (fun W=>Qap c Hcs.o p W aH);generalize Jl c p=o at hft2 Hread;go_wp2_with fail;refine(Hread.o _).mono ?_;rintro e w4 ⟨hcase,hb4⟩;have Hb4:=Aa (hbr.o.trans (hb4.mono hbr.o.size));cases o with
   |none=>
    obtain⟨n,a1,a2,a3,a4,a5,rfl⟩:=hcase;have Hend:=@Aa (Fa (c::r)=none) hft2.o;go_wp2_with fail;go_ret2;exact Ft.no Hend.o rfl (Hb4.o.alloc Hb4.o.size _)
   |some f=>
    have hcase':e=.returned (.tuple #[.agg #[(f.tag:Int),f.name,f.kind.signs,f.kind.base,f.kind.name,f.given],.bool true]):=hcase;subst hcase';clear hcase;have s0:=(hb4.cell (p:=⟨w2.heap.size,0,none⟩) (show w2.heap.size<wo.heap.size by omega)).trans t0;have s2:=(hb4.cell (p:=⟨w2.heap.size,2,none⟩) (show w2.heap.size<wo.heap.size by omega)).trans t2;have hz4:wo.heap.size<=w4.heap.size:=hb4.size;have hn4:¬(w2.heap.size=w4.heap.size):=aH;have hn5:w2.heap.size<w4.heap.size:=aH;have Hb4r:=Aa hb4;clear t0 t2 hb4;have hft3:=@Aa (Fa (c::r)=Qla c nm (if acc.length=8\/Gt acc f=false then none else Fx c (ps.drop (k+1)) (acc++[f]))) hft2.o;clear hft2;rcases Nat.eq_or_lt_of_le ha8 with h8|h8
    ·have q1:((acc.length:Int) == 8)=true:=by simp[h8]
     have Hend:=Aa (hft3.o.trans (by rw[if_pos (.inl h8)]));clear h8;go_wp2_with fail;go_ret2;exact Ft.no Hend.o rfl (Hb4.o.alloc Hb4.o.size _)
    have q1:((acc.length:Int) == 8)=false:=cq;go_wp2_with fail;have f0:(w4.alloc (.cells #[(f.tag:Int),f.name,f.kind.signs,f.kind.base,f.kind.name,f.given] 97)).cell? (w4,0)=(f.tag:Int):=aK;have f1:(w4.alloc (.cells #[(f.tag:Int),f.name,f.kind.signs,f.kind.base,f.kind.name,f.given] 97)).cell? (w4,1)=f.name:=aK;have HR0:=Aa (Bo w4 [(f.tag:Int),f.name,f.kind.signs,f.kind.base,f.kind.name,f.given] 97);go_loopw [81] (fun jj wq=>∃j:Nat,jj=.int .i64 j/\j<=acc.length/\Hid (∀x∈acc.take j,x.name≠f.name/\x.tag<f.tag)/\Hid (Below w4 w4 wq)/\w4.heap.size<wq.heap.size/\Hid (wq.rangeAt w4 0 [(f.tag:Int),f.name,f.kind.signs,f.kind.base,f.kind.name,f.given])) (fun jj _=>acc.length - (intOf jj).toNat)
    case atStart=>exact⟨0,rfl,ag _,by intro x hx;simp at hx,(Ao _ _).alloc (An _) _,by simp,HR0.o⟩
    case round=>
     clear f0 f1;obtain⟨j,rfl,hj,hin,hbq,hzq,hfr⟩:=hrel;have j1:(0:Int)<=(j:Int):=aH;have f0:wr.cell? (w4,0)=(f.tag:Int):=by simpa using Ab hfr.o 0 rfl
     have f1:wr.cell? (w4,1)=f.name:=by simpa using Ab hfr.o 1 rfl
     have hnq:¬(w4.heap.size=wr.heap.size):=aH;have Hbq:=Aa (Hb4.o.trans (hbq.o.mono Hb4.o.size));by_cases hjl:j<acc.length
     ·have j2:(j:Int)<(acc.length:Int):=aH;obtain⟨bA,oA,rfl,hbA,hrg⟩:=Q5.range ((Hrow.o.below Hb4r.o).below hbq.o) hjl;have Hts:=Aa (Cb acc j hjl);have Hmem:=Aa (ae hjl);have Hrg:=@Aa (wr.rangeAt bA (oA+j*6) [.int .i64 (acc[j].tag:Int),.string ⟨acc[j].name.toArray⟩,.string ⟨acc[j].kind.signs.toArray⟩,.string ⟨acc[j].kind.base.toArray⟩,.string ⟨acc[j].kind.name.toArray⟩,.string ⟨acc[j].given.toArray⟩]) hrg;clear hrg;generalize acc[j]=x at Hts Hmem Hrg;rcases Decidable.em (x.name=f.name)with hnm|hnm
      ·have q2:(x.name == f.name)=true:=by simp[hnm]
       have Hend:=Aa (hft3.o.trans (by rw[if_pos (.inr (Qc2 Hmem.o (.inr hnm)))]));clear hnm;go_wp2_with ((with_reducible refine wpList_load_mid (op:=⟨_,.load 97 _,_,_,_,none⟩) rfl 97 _ rfl bA (oA+j*6) ?_ _ _ Hrg.o underlying97 ?_ ?_ ?_);rfl;rfl;kernel_rfl)
       go_ret2;exact Ft.no Hend.o rfl (Hbq.o.alloc Hbq.o.size _)
      have q2:(x.name == f.name)=false:=by simp[hnm]
      rcases aG x.tag f.tag with ht|ht
      ·have q3:decide ((f.tag:Int)<=(x.tag:Int))=false:=eI
       have Hin:=Aa (show ∀y∈acc.take (j+1),y.name≠f.name/\y.tag<f.tag from by
        intro y hy;rw[Hts.o]at hy;rcases af.1 hy with hy|hy
        ·exact hin.o y hy
        simp at hy;subst hy;exact⟨hnm,ht⟩)
       clear hnm;go_wp2_with ((with_reducible refine wpList_load_mid (op:=⟨_,.load 97 _,_,_,_,none⟩) rfl 97 _ rfl bA (oA+j*6) ?_ _ _ Hrg.o underlying97 ?_ ?_ ?_);rfl;rfl;kernel_rfl)
       go_roundw
       case rel=>exact⟨j+1,by go_num,by omega,Hin.o,hbq.o.alloc (Nat.le_of_lt hzq) _,by simp;omega,Ah hfr.o hzq ((Ao wr.heap.size wr).alloc (An _) _)⟩
       case measure=>simp[intOf];omega
      have q3:decide ((f.tag:Int)<=(x.tag:Int))=true:=by rw[decide_eq_true_iff];omega
      have Hend:=Aa (hft3.o.trans (by rw[if_pos (.inr (Qc2 Hmem.o (.inl ht)))]));clear hnm;go_wp2_with ((with_reducible refine wpList_load_mid (op:=⟨_,.load 97 _,_,_,_,none⟩) rfl 97 _ rfl bA (oA+j*6) ?_ _ _ Hrg.o underlying97 ?_ ?_ ?_);rfl;rfl;kernel_rfl)
      go_ret2;exact Ft.no Hend.o rfl (Hbq.o.alloc Hbq.o.size _)
     ·have j2:¬(j:Int)<(acc.length:Int):=aH
      have Hft4:=Aa (show Fa (c::r)=Qla c nm (Fx c (ps.drop (k+1)) (acc++[f]))from by
       rw[hft3.o,if_neg];rintro(h|h)
       ·omega
       rw[Qe6 (fun y hy=>hin.o y (by rw[au aH];exact hy))]at h;cases h)
      have hb1:Below wo wo wr:=Hb4r.o.trans (hbq.o.mono hz4);have Hown:=Aa (Ct hown.o hb1);have Hpr:=@Aa (∀j (hj:j<ps.length),wr.cell? ⟨g,j,none⟩=some (.string ⟨ps[j].toArray⟩)) (fun j hj=>(hb1.cell (p:=⟨g,j,none⟩) (show g<wo.heap.size by omega)).trans (hpr.o j hj));have HT1:=Aa (Ah hT.o (show w2.heap.size<wo.heap.size by omega) hb1);have HB1:=Aa (hB.o.belowAt (show w2.heap.size<wo.heap.size by omega) hb1);have HK1:=Aa (Aj hK.o (show w2.heap.size<wo.heap.size by omega) hb1);have hz5:w3.heap.size<=wr.heap.size:=aH;have hz6:w.heap.size<=w3.heap.size:=aH;clear hb1 f0 f1;go_wp2_with fail;refine Bp [98,99,100,101,102,103,104,105,106,107,999] aN aN aN (fun u=>by dsimp only[Bt,Bq,List.set,am,Nat.reduceAdd])
       (fun i v W=>match i with|0=>v=w2.heap.size|1=>v=w2.heap.size|2=>v=w2.heap.size|3=>v=(w2,2)|4=>v=.slice A acc.length cA|5=>v=.agg #[(f.tag:Int),f.name,f.kind.signs,f.kind.base,f.kind.name,f.given]|8=>v=w2.heap.size|9=>v=(w2,2)|_=>True)
       (fun L U W=>Below w w W/\w3.heap.size<=W.heap.size/\(∀j (hj:j<ps.length),W.cell? ⟨g,j,none⟩=some (.string ⟨ps[j].toArray⟩))/\(W.there w2 0 4/\Qe W w2.heap.size) /\
        (L 10=false->W.rangeAt w2 0 [.int .u8 (c.toNat:Int),nm,.slice A acc.length cA,.string ⟨(c::r).toArray⟩])/\(L 10=true->W.rangeAt w2 0 [.int .u8 (c.toNat:Int),nm,U 7,.string ⟨(c::r).toArray⟩]) /\
        (L 5=false->W.rangeAt w4 0 [(f.tag:Int),f.name,f.kind.signs,f.kind.base,f.kind.name,f.given])/\(L 7=false->W.ownsRow w3 97 6 (.slice A acc.length cA) acc.length (acc.flatMap Rt))/\(L 7=true->W.ownsRow w3 97 6 (U 7) (acc.length+1) (acc.flatMap Rt++Rt f)) /\
        (L 6=true->L 7=false->∃q,U 6=.slice (some ⟨q,0,none⟩) 1 1/\W.rangeAt q 0 [(f.tag:Int),f.name,f.kind.signs,f.kind.base,f.kind.name,f.given]))
       (fun _ _=>True) (fun w w' _ i v h=>by revert h;exact fun h=>h) ⟨Hbq.o.drew,hz5,Hpr.o,⟨HK1.o,HB1.o⟩,fun _=>HT1.o,by simp,fun _=>hfr.o,fun _=>Hown.o,by simp,by simp⟩ ?_ ?_
      ·repeat (first|exact Ak.nil|(refine Ak.cons ?_ ?_;rotate_left))
       all_goals
        rintro L U W hL hpre hR hun hdep K hK;have Hdep:=Aa hdep;have HR:=Aa hR;clear hun hdep hR;first|(simp[Region.binds]at hpre;done)|simp[Region.binds]at hpre|clear hpre
       ·go_simp;exact hK _ _ _ rfl Ac HR.o rfl
       ·go_simp;exact hK _ _ _ rfl Ac HR.o rfl
       ·have u1:=hpre.2;go_simp;exact hK w2.heap.size _ _ rfl Ac HR.o (by simp[Act.put,u1])
       ·have u2:=hpre.2;go_simp;exact hK (w2,2) _ _ rfl Ac HR.o (by simp[Act.put,u2])
       ·have h10:=(Bb Hdep.o 10 7 rfl (Bb Hdep.o 7 4 rfl hL))
        obtain⟨r1,r2,r3,r4,r5,r6,r7,r8,r9,r0⟩:=HR.o;have u3:=hpre.2;have c2:W.cell? (w2,2)=some (.slice A acc.length cA):=by simpa using Ab (r5 h10) 2 rfl
        clear r1 r2 r3 r4 r5 r6 r7 r8 r9 r0;go_simp;exact hK (.slice A acc.length cA) _ _ rfl Ac HR.o (by simp[Act.put,u3])
       ·obtain⟨r1,r2,r3,r4,r5,r6,r7,r8,r9,r0⟩:=HR.o;rw[if_pos cr];refine wp_load_mid 97 _ rfl w4 0 rfl [(f.tag:Int),f.name,f.kind.signs,f.kind.base,f.kind.name,f.given] _ (r7 hL) underlying97 rfl aN ?_;exact hK (.agg ([(f.tag:Int),f.name,f.kind.signs,f.kind.base,f.kind.name,f.given]:List Value).toArray) _ _ rfl Ac ⟨r1,r2,r3,r4,r5,r6,fun h=>by simp at h,r8,r9,r0⟩ rfl
       ·obtain⟨r1,r2,r3,r4,r5,r6,r7,r8,r9,r0⟩:=HR.o;have R1:=Aa r1;have u5:=hpre.2;have HF5:=Aa (Bo W [(f.tag:Int),f.name,f.kind.signs,f.kind.base,f.kind.name,f.given] 97)
        have HRR:=Aa (show (∀j (hj:j<ps.length),(W.alloc (.cells #[(f.tag:Int),f.name,f.kind.signs,f.kind.base,f.kind.name,f.given] 97)).cell? ⟨g,j,none⟩=some (.string ⟨ps[j].toArray⟩))/\((W.alloc (.cells #[(f.tag:Int),f.name,f.kind.signs,f.kind.base,f.kind.name,f.given] 97)).there w2 0 4/\Qe (W.alloc (.cells #[(f.tag:Int),f.name,f.kind.signs,f.kind.base,f.kind.name,f.given] 97)) w2.heap.size) /\
         (L 10=false->(W.alloc (.cells #[(f.tag:Int),f.name,f.kind.signs,f.kind.base,f.kind.name,f.given] 97)).rangeAt w2 0 [.int .u8 (c.toNat:Int),nm,.slice A acc.length cA,.string ⟨(c::r).toArray⟩])/\(L 10=true->(W.alloc (.cells #[(f.tag:Int),f.name,f.kind.signs,f.kind.base,f.kind.name,f.given] 97)).rangeAt w2 0 [.int .u8 (c.toNat:Int),nm,U 7,.string ⟨(c::r).toArray⟩]) /\
         (L 5=false->(W.alloc (.cells #[(f.tag:Int),f.name,f.kind.signs,f.kind.base,f.kind.name,f.given] 97)).rangeAt w4 0 [(f.tag:Int),f.name,f.kind.signs,f.kind.base,f.kind.name,f.given])/\(L 7=false->(W.alloc (.cells #[(f.tag:Int),f.name,f.kind.signs,f.kind.base,f.kind.name,f.given] 97)).ownsRow w3 97 6 (.slice A acc.length cA) acc.length (acc.flatMap Rt))/\(L 7=true->(W.alloc (.cells #[(f.tag:Int),f.name,f.kind.signs,f.kind.base,f.kind.name,f.given] 97)).ownsRow w3 97 6 (U 7) (acc.length+1) (acc.flatMap Rt++Rt f))
         from⟨fun j hj=>by rw[World.cell?_alloc_old _ _ _ (show g≠W.heap.size by omega)];exact r3 j hj,⟨ar r4.1 _,r4.2.belowAt (show w2.heap.size<W.heap.size by omega) ((Ao _ _).alloc (An _) _)⟩,fun h=>World.rangeAt_alloc (r5 h) _,fun h=>World.rangeAt_alloc (r6 h) _,fun h=>World.rangeAt_alloc (r7 h) _,fun h=>(r8 h).alloc _,fun h=>(r9 h).alloc _⟩)
        clear r1 r3 r4 r5 r6 r7 r8 r9 r0;go_simp;refine hK (.slice (W,0) 1 1) _ _ Ac Ac ⟨R1.o.alloc R1.o.size _,by simp;omega,HRR.o.1,HRR.o.2.1,HRR.o.2.2.1,HRR.o.2.2.2.1,HRR.o.2.2.2.2.1,HRR.o.2.2.2.2.2.1,HRR.o.2.2.2.2.2.2,fun _ _=>⟨W.heap.size,rfl,HF5.o⟩⟩ (by simp[Act.put,u5])
       ·obtain⟨r1,r2,r3,r4,r5,r6,r7,r8,r9,r0⟩:=HR.o;have h10:=(Bb Hdep.o 10 7 rfl hL)
        have h7:=r8 hL;obtain⟨q,e1,e2⟩:=r0 hpre.2 hL;obtain⟨i0,hi,hz0,hz1,hz2'⟩:=info_parts Tryz.infoIf;rw[if_pos cr];refine wp_append_own W (.tmp 102) (.tmp 104) 93 rfl w3 97 i0 (.agg #[.int .i64 0,a6,a6,a6,a6,a6]) 6 88 underlying93 hi hz0 hz1 hz2' rfl aJ (.slice A acc.length cA) acc.length (acc.flatMap Rt) hpre.1.2 h7 ⟨q,0,none⟩ 1 1 (Rt f) e1 (by simp[Rt]) ?_ (fun y hy=>Qlm [f] y eh) aU aH r2 ?_
        ·intro i x hx;rw[Qgp];have:=e2 i x hx;simpa using this
        intro v' w' hown' hgr _;have hbw:Below w3 W w':=(Ao _ _).grown hgr r2 (fun k hk=>(h7.lt k hk).1);refine hK v' w' _ Ac Ac ⟨r1.trans (hbw.mono hz6),ad r2 hbw.size,fun j hj=>(hbw.cell (p:=⟨g,j,none⟩) (show g<w3.heap.size by omega)).trans (r3 j hj),⟨Aj r4.1 hz3 hbw,r4.2.belowAt hz3 hbw⟩,fun h=>Ah (r5 h) hz3 hbw,fun h=>absurd h10 (by rw[show L 10=true from h];decide),fun h=>absurd hpre.2 (by rw[Bb Hdep.o 6 5 rfl h];decide),fun h=>by simp at h,fun _=>hown',fun _ h=>by simp at h⟩ rfl
       ·have u0:=hpre.1.2;go_simp;exact hK w2.heap.size _ _ rfl Ac HR.o aI
       ·have u8:=hpre.2;go_simp;exact hK (w2,2) _ _ rfl Ac HR.o aI
       ·obtain⟨r1,r2,r3,r4,r5,r6,r7,r8,r9,r0⟩:=HR.o;have R1:=Aa r1;have l7:L 7=true:=by first|exact hpre.2.1|exact hpre.2.1.1
        have h5:=r5 hL;have h9:=r9 l7;obtain⟨A7,n7,c7,e7⟩:=Ed h9;rw[e7]at h9;obtain⟨y2,c2⟩:=Option.isSome_iff_exists.1 (r4.1 2 aJ).1;rw[am]at c2;have z2:W.frozen? (w2,2)=false:=by simpa using(r4.1 2 aJ).2
        have hT10:=@Aa ((W.setCell ⟨w2.heap.size,2,none⟩ (.slice A7 n7 c7)).rangeAt w2 0 [.int .u8 (c.toNat:Int),nm,(.slice A7 n7 c7),.string ⟨(c::r).toArray⟩]) (Cm [.int .u8 (c.toNat:Int),nm] [.slice A acc.length cA] [.string ⟨(c::r).toArray⟩] [.slice A7 n7 c7] h5 rfl);have hK10:=@Aa ((W.setCell ⟨w2.heap.size,2,none⟩ (.slice A7 n7 c7)).there w2 0 4) (ai r4.1 w2 2 [.slice A7 n7 c7]);have hBk10:=Aa (r4.2.set (o:=2) (.slice A7 n7 c7))
        have hP10:=Aa (show ∀j (hj:j<ps.length),(W.setCell ⟨w2.heap.size,2,none⟩ (.slice A7 n7 c7)).cell? ⟨g,j,none⟩=some (.string ⟨ps[j].toArray⟩)from fun j hj=>by
         rw[World.cell?_setCell_other _ _ _ _ bW];exact r3 j hj)
        have hO10:=@Aa ((W.setCell ⟨w2.heap.size,2,none⟩ (.slice A7 n7 c7)).ownsRow w3 97 6 (.slice A7 n7 c7) (acc.length+1) (acc.flatMap Rt++Rt f)) (h9.kept (Mk W _ (.slice A7 n7 c7)) (.inr (fun e=>by have:=(h9.lt _ e).1;simp at this;omega)));have hz10:w3.heap.size<=(W.setCell ⟨w2.heap.size,2,none⟩ (.slice A7 n7 c7)).heap.size:=by simpa using r2
        have hB10:=@Aa (Below w w (W.setCell ⟨w2.heap.size,2,none⟩ (.slice A7 n7 c7))) (r1.setCell hz2 _);clear r1 r3 r4 r5 r6 r7 r8 r9 r0 h5 h9;go_simp;exact hK undef _ _ Ac Ac ⟨hB10.o,hz10,hP10.o,⟨hK10.o,hBk10.o⟩,fun h=>by simp at h,fun _=>by show World.rangeAt _ _ _ [_,_,U 7,_];rw[e7];exact hT10.o,fun h=>absurd l7 (by rw[(Bb Hdep.o 7 6 rfl (Bb Hdep.o 6 5 rfl h))];decide),fun h=>absurd l7 (by rw[show L 7=false from h];decide),fun _=>by show World.ownsRow _ _ _ _ (U 7) _ _;rw[e7];exact hO10.o,fun _ h=>absurd l7 (by rw[show L 7=false from h];decide)⟩ (by simp[Act.put,hpre,e7])
      rintro L U W hL hφ hR;obtain⟨hbW,hzW,hprW,hKW,_,hTW,_,_,hoW,_⟩:=hR;have hTW':=hTW (hL 10 aJ);have hoW':=hoW (hL 7 aJ);generalize U 7=V at hTW' hoW';have HbW:=Aa hbW;have HprW:=Aa hprW;have HKW:=Aa hKW.1;have HBW:=Aa hKW.2;have HTW:=Aa hTW';have HoW:=Aa hoW';clear hL hφ hbW hprW hKW hTW hoW hTW' hoW';go_wp2_with fail;go_roundw
      case rel=>exact⟨k+1,acc++[f],V,by go_num,by omega,by simp;omega,Hft4.o,by rw[ah,List.flatMap_append,show [f].flatMap Rt=Rt f from by simp];exact HoW.o,HbW.o,hzW,HprW.o,HTW.o,HKW.o,HBW.o⟩
      case measure=>simp[intOf];omega
  ·have i2:¬(k:Int)<(ps.length:Int):=aH;have Hfin:=Aa (show Fa (c::r)=some ⟨c,nm,acc⟩by rw[hft.o,List.drop_of_length_le aH];rfl);go_wp2_with fail;go_ret2;refine Ft.yes Hfin.o (b:=w2.heap.size) (fv:=.slice A acc.length cA) rfl hz2 ?_ (fun k hk=>by have:=(hown.o.lt k hk).1;omega) hbr.o;refine⟨show w2.heap.size<wo.heap.size by omega,hB.o,by simpa using Ab hT.o 0 rfl,by simpa using Ab hT.o 1 rfl,by simpa using Ab hT.o 2 rfl,?_,A,cA,rfl,ha8,Hrow.o⟩;have hB:=(Gd.1 Hfin.o).2;show _=some (Value.string ⟨(V8 ⟨c,nm,acc⟩).toArray⟩);rw[hB];simpa using Ab hT.o 3 rfl
theorem Qb9(s:List UInt8)(w:World)(hs:s.length<=4000000):
  Calls prog 120 #[s] w (Ft (Fa s) w):=by
 cases s with
 |nil=>exact Qhb w
 |cons c r=>
  simp at hs;by_cases hc:Eh c
  ·by_cases h:(Dl 61 r).2.2=false\/Be (Dl 61 r).1=false\/(Dl 61 r).2.1=[]
   ·exact Qf7 c r w aH hc h
   simp only[not_or]at h;exact Qfi c r (Dl 61 r).1 (Dl 61 r).2.1 w aH hc (Prod.ext rfl (Prod.ext rfl (by simpa using h.1))) (by simpa using h.2.1) h.2.2
  exact Qf8 c r w aH hc
def Qmy(w:World)(p:Value)(xs:List PT):Prop:=
 ∃b mb,p=.pointer (some ⟨b,0,none⟩)/\b<w.heap.size/\w.cell? ⟨b,1,none⟩=some (.map (some mb))/\Qo w mb xs
theorem Sd.map{w:World}{p:Value}{xs:List PT}(h:Sd w p xs):Qmy w p xs:=by
 obtain⟨b,A,c,mb,e,h0,h1,h2,h3,h4,_⟩:=h
 exact⟨b,mb,e,h0,h2,h4⟩
theorem E8{w:World}{mb:Nat}{xs:List PT}(h:Qo w mb xs)(n:Cn)(hn:n.length<=9223372036854775807):
  (Instr.lookup 133 (.map (some mb)) (.string ⟨n.toArray⟩) false).run prog w=.ok (Pq (D8 xs n)) w:=
 Dp.lookup h Tryz.keyStr underlying133 (Tryz.zeroPtr w) (Qgm hn)
theorem Fv{k:Kd}(h:Ck k):k.name.length<=3:=by
 rcases h.2.1 with⟨_,hn⟩|⟨_,hn⟩
 ·exact(Ds.1 hn).2.1
 rw[hn];simp
theorem Sd.tys{w:World}{p:Value}{xs:List PT}(h:Sd w p xs):∀x∈xs,P8 w x:=by
 obtain⟨_,_,_,_,_,_,_,_,_,_,h,_⟩:=h
 exact h
theorem Qdz(p:Value)(xs:List PT)(k:Kd)(w:World)(h:Qmy w p xs)(hk:k.name.length<=100):
  Calls prog 82 #[p,D9 k] w fun e w'=>e=.returned (.bool (decide (B6 (Ag xs) k)))/\Below w w w':=by
 obtain⟨b,mb,rfl,hb,hm,hn⟩:=h;have Hn:=Aa hn;clear hn;unfold D9;generalize hd:(.cells #[k.signs,k.base,k.name] 60:Obj)=ob;have hl0:w.heap.size<(w.alloc ob).heap.size:=aK;have x1:(w.alloc ob).cell? (w,1)=k.base:=by rw[<-hd];simp
 have x2:(w.alloc ob).cell? (w,2)=k.name:=by rw[<-hd];simp
 have x3:(w.alloc ob).cell? (b,1)=some (.map (some mb)):=by rw[World.cell?_alloc_old _ _ _ (show b≠w.heap.size by omega)];exact hm
 have hlook:∀q,(Instr.lookup 133 (.map (some mb)) k.name false).run prog ((w.alloc ob).drewN q)=.ok (Pq (D8 xs k.name)) ((w.alloc ob).drewN q):=fun q=>E8 (Dp.below (Hn.o.alloc _) (below_drewN (Ao _ _) q)) k.name aH;have Hd:=Aa hd
 have Hr:=Aa (show decide (B6 (Ag xs) k)=(decide (k.base≠[64]) || (D8 xs k.name).isSome)by
  have e:B6 (Ag xs) k↔(k.base=[64]->(D8 xs k.name).isSome=true):=by unfold B6;rw[Gg];simp
  by_cases h:k.base=[64]
  ·cases hf:D8 xs k.name with
   |none=>rw[aC (fun h2=>by have:=e.1 h2 h;rw[hf]at this;cases this)];simp[h]
   |some x=>rw[aD (e.2 (fun _=>by rw[hf];rfl))];simp
  rw[aD (e.2 (fun h2=>absurd h2 h))];simp[h])
 have Hb:=@Aa (Below w w (w.alloc ob)) ((Ao _ _).alloc (An _) _);go_enter func82,ntmps82;rcases Decidable.em (k.base=[64])with h64|h64
 ·have t1:(k.base != [64])=false:=eT;have H64:=Aa h64;clear h64 hd hl0;go_wp2_with fail;rw[Hd.o];cases hf:D8 xs k.name with
  |none=>
   rw[hf]at hlook;have Hf:=Aa hf;clear hf;unfold Pq at hlook;refine Bp [5,6,7,8,9,10,11,12,13,14,15,16,17,4] aN aN aN (fun u=>by dsimp only[Bt,Bq,List.set,am,Nat.reduceAdd])
    (fun i v W=>match i with|0=>v=(w,1)|1=>v=k.base|2=>v=.bool false|3=>v=.bool false|4=>v=b|5=>v=b|6=>v=(b,1)|7=>v=.map (some mb)|8=>v=(w,2)|9=>v=k.name|10=>v=.pointer none|11=>v=.bool false|12=>v=.bool false|13=>v=.bool false|_=>True) (fun L U W=>∃q,W=(w.alloc ob).drewN q) (fun _ _=>True) (fun _ _ _ _ _ h=>h) ⟨1,rfl⟩ ?_ ?_
   ·exact il
   rintro L U W hL hφ ⟨q,rfl⟩;have e13:U 13=.bool false:=hφ 13 aJ;simp only[e13];go_wp2_with fail;go_ret;exact⟨Em (Cz (by rw[Hr.o,Hf.o];simp[H64.o])),below_drewN Hb.o _⟩
  |some x=>
   rw[hf]at hlook;have Hf:=Aa hf;clear hf;unfold Pq PT.ptr at hlook;refine Bp [5,6,7,8,9,10,11,12,13,14,15,16,17,4] aN aN aN (fun u=>by dsimp only[Bt,Bq,List.set,am,Nat.reduceAdd])
    (fun i v W=>match i with|0=>v=(w,1)|1=>v=k.base|2=>v=.bool false|3=>v=.bool false|4=>v=b|5=>v=b|6=>v=(b,1)|7=>v=.map (some mb)|8=>v=(w,2)|9=>v=k.name|10=>v=x.blk|11=>v=.bool true|12=>v=.bool true|13=>v=.bool true|_=>True) (fun L U W=>∃q,W=(w.alloc ob).drewN q) (fun _ _=>True) (fun _ _ _ _ _ h=>h) ⟨1,rfl⟩ ?_ ?_
   ·exact il
   rintro L U W hL hφ ⟨q,rfl⟩;have e13:U 13=.bool true:=hφ 13 aJ;simp only[e13];go_wp2_with fail;go_ret;exact⟨Em (Cz (by rw[Hr.o,Hf.o];simp)),below_drewN Hb.o _⟩
 have t1:(k.base != [64])=true:=eT;have H64:=Aa h64;clear h64 hd hl0;go_wp2_with fail;rw[Hd.o];refine Bp [5,6,7,8,9,10,11,12,13,14,15,16,17,4] aN aN aN (fun u=>by dsimp only[Bt,Bq,List.set,am,Nat.reduceAdd])
  (fun i v W=>match i with|0=>v=(w,1)|1=>v=k.base|2=>v=.bool true|3=>v=.bool true|12=>v=.bool true|13=>v=.bool true|_=>True) (fun L U W=>∃q,W=(w.alloc ob).drewN q) (fun _ _=>True) (fun _ _ _ _ _ h=>h) ⟨1,rfl⟩ ?_ ?_
 ·exact il
 rintro L U W hL hφ ⟨q,rfl⟩;have e13:U 13=.bool true:=hφ 13 aJ;simp only[e13];go_wp2_with fail;go_ret;exact⟨Em (Cz (by rw[Hr.o];simp[H64.o])),below_drewN Hb.o _⟩
theorem Ve{S:List Ty}{n:Nat}{t:Ty}(h:Fy S t=none):Ca S (n+1) t=true:=by rw[Ca,h]
theorem Qmf{S:List Ty}{n:Nat}{t u:Ty}(h:Fy S t=some u):Ca S (n+1) t=Ca S n u:=by rw[Ca,h]
theorem Qh0{S:List Ty}{t:Ty}(h:t.sort≠85):Fy S t=none:=if_neg h
theorem Qid{S:List Ty}{t:Ty}{f:Fd}{fs:List Fd}(h:t.sort=85)(hf:t.fields=f::fs):Fy S t=if f.kind.signs=[]/\f.kind.base=[64]then Bk S f.kind.name else none:=by
 unfold Fy;rw[if_pos h,hf]
theorem Qdt{t:Ty}(h:Fi t)(hs:t.sort=85):∃f fs,t.fields=f::fs/\Ck f.kind:=by
 obtain⟨_,_,h3,_,h5⟩:=h;cases hf:t.fields with
 |nil=>have:=h5 hf;rw[hs]at this;exact absurd this aJ
 |cons f fs=>exact⟨f,fs,rfl,((h3.1 f ei).2.2.2.2 ey).1⟩
theorem Qh7(p:Value)(xs:List PT)(x:PT)(w:World)(h:Qmy w p xs)(hT:∀y∈xs,P8 w y)(hok:∀y∈xs,Fi y.ty)(hS:H8 (Ag xs))(hx:x∈xs):
  Calls prog 121 #[p,x.ptr] w fun e w'=>e=.returned (.bool (Ca (Ag xs) 9 x.ty))/\Below w w w':=by
 have Hmap:=Aa h;obtain⟨b,mb,rfl,hb,hm,hn⟩:=h;have HT:=Aa hT;have Hok:=Aa hok;have HS:=Aa hS;have Hx:=Aa hx;have Hn:=Aa hn;have Hm:=Aa hm;clear hT hok hS hx hn hm;unfold PT.ptr;go_enter func121,ntmps121;go_wp2_with fail;go_loopw [1,6] (fun t i wr=>∃(n:Nat) (y:PT),i=.int .i64 n/\n<=9/\t=y.blk/\Hid (y∈xs)/\Hid (Ca (Ag xs) 9 x.ty=Ca (Ag xs) (9 - n) y.ty)/\Hid (Below w w wr)) (fun _ i _=>9 - (intOf i).toNat)
 case atStart=>exact⟨0,x,rfl,by omega,rfl,Hx.o,rfl,Ao _ _⟩
 case round=>
  obtain⟨n,y,rfl,hn9,rfl,hy,he,hbr⟩:=hrel;have n1:(0:Int)<=(n:Int):=aH;obtain⟨hyb,_,y0,y1,y2,y3,A,cA,hyf,hl8,hrow⟩:=(HT.o y hy.o).below hbr.o;have Hrow:=Aa hrow;have hzw:=hbr.o.size;rw[hyf]at y2;clear hrow hyf y1 y3;by_cases hlt:n<9
  ·have n2:(n:Int)<9:=aH;have he2:=Aa (show Ca (Ag xs) 9 x.ty=Ca (Ag xs) (8 - n+1) y.ty by rw[he.o,show 9 - n=8 - n+1 by omega]);by_cases h85:y.ty.sort=85
   ·have t1:((y.ty.sort.toNat:Int) != 85)=false:=Na (d:=85) h85;obtain⟨f,fs,hf,hkd⟩:=Qdt (Hok.o y hy.o) h85;have Hnext:=Aa (Qid (S:=Ag xs) h85 hf);have hpos:0<y.ty.fields.length:=ei;obtain⟨bA,oA,rfl,hbA,hrg⟩:=Q5.range Hrow.o hpos;have hf0:y.ty.fields[0]=f:=by simp[hf]
    rw[hf0,Nat.zero_mul,Nat.add_zero]at hrg;have Hrg:=@Aa (wr.rangeAt bA (oA+2) [f.kind.signs,f.kind.base,f.kind.name]) (Qb5 [(f.tag:Int),f.name] _ [f.given] hrg);have hp1:(0:Int)<(y.ty.fields.length:Int):=aH;have Href:=Aa (HS.o y.ty (ap (f:=(·.ty)) hy.o) dX f ei);have Hkd:=Aa hkd;have hnl:=Fv hkd;clear h85 hf hf0 hrg hkd;have hbb:=Aa ((Hm.o));by_cases hsg:f.kind.signs=[]
    ·have s1:(f.kind.signs != [])=false:=cO;have s2:f.kind.signs.isEmpty=true:=cO;have s4:(!f.kind.signs.isEmpty)=false:=cO;by_cases h64:f.kind.base=[64]
     ·have s3:(f.kind.base == [64])=true:=eT;have s5:(f.kind.base != [64])=false:=eT;have hsome:=Href.o h64;rw[Gg]at hsome;cases hz:D8 xs f.kind.name with
      |none=>rw[hz]at hsome;cases hsome
      |some z=>
       have Hz:=Aa (show Ca (Ag xs) 9 x.ty=Ca (Ag xs) (8 - n) z.ty from by
        rw[he2.o];exact Qmf (by rw[Hnext.o,if_pos ⟨hsg,h64⟩,Gg,hz];rfl))
       have Hzm:=Aa (D5 hz).1;generalize hd:(.cells #[f.kind.signs,f.kind.base,f.kind.name] 60:Obj)=ob;have x2:(wr.alloc ob).cell? (wr,2)=f.kind.name:=by rw[<-hd];simp
       have x3:(wr.alloc ob).cell? (b,1)=some (.map (some mb)):=by
        rw[World.cell?_alloc_old _ _ _ (show b≠wr.heap.size by omega)];exact(hbr.o.cell (p:=⟨b,1,none⟩) hb).trans Hm.o
       have hlook:∀q,(Instr.lookup 133 (.map (some mb)) f.kind.name false).run prog ((wr.alloc ob).drewN q)=.ok z.blk ((wr.alloc ob).drewN q):=fun q=>by
        have:=E8 (Dp.below (Dp.alloc (Dp.below Hn.o hbr.o) ob) (below_drewN (Ao _ _) q)) f.kind.name aH;rw[hz]at this;exact this
       have Hbb:=@Aa (Below w w (wr.alloc ob)) (hbr.o.alloc hzw _);have Hd:=Aa hd;clear hd hsg h64 hz hsome;go_wp2_with ((with_reducible refine wpList_load_mid (op:=⟨_,.load 60 _,_,_,_,none⟩) rfl 60 _ rfl bA (oA+2) ?_ _ _ Hrg.o underlying60 ?_ ?_ ?_);rfl;rfl;kernel_rfl)
       rw[Hd.o];refine Bp [28,29,30,31,32,33,34,1] aN aN aN (fun u=>by dsimp only[Bt,Bq,List.set,am,Nat.reduceAdd])
        (fun i v W=>match i with|0=>v=b|1=>v=b|2=>v=(b,1)|3=>v=.map (some mb)|4=>v=(wr,2)|5=>v=f.kind.name|6=>v=z.blk|7=>v=z.blk|_=>True) (fun L U W=>∃q,W=(wr.alloc ob).drewN q) (fun _ _=>True) (fun _ _ _ _ _ h=>h) ⟨1,rfl⟩ ?_ ?_
       ·repeat (first|exact Ak.nil|(refine Ak.cons ?_ ?_;rotate_left))
        all_goals
         rintro L U W hL hpre ⟨q,rfl⟩ hun hdep K hK;have hlq:=hlook q;clear hun hdep;first|(simp[Region.binds]at hpre;done)|simp[Region.binds]at hpre|clear hpre
         go_simp;first|exact hK _ _ _ rfl Ac ⟨q,rfl⟩ rfl|exact hK _ _ _ rfl Ac ⟨q,rfl⟩ aI
       rintro L U W hL hφ ⟨q,rfl⟩;have e7:U 7=z.blk:=hφ 7 aJ;simp only[e7];clear hφ hL hlook x2 x3;go_wp2_with fail;go_roundw
       case rel=>exact⟨n+1,z,by go_num,by omega,rfl,Hzm.o,by show _=Ca (Ag xs) (9 - (n+1)) z.ty;rw[Hz.o,show 9 - (n+1)=8 - n by omega],below_drewN Hbb.o _⟩
       case measure=>simp[intOf];omega
     have s3:(f.kind.base == [64])=false:=eT;have s5:(f.kind.base != [64])=true:=eT;have Hend:=Aa (he2.o.trans (Ve (by rw[Hnext.o,if_neg (fun h=>h64 h.2)])));clear hsg h64;go_wp2_with ((with_reducible refine wpList_load_mid (op:=⟨_,.load 60 _,_,_,_,none⟩) rfl 60 _ rfl bA (oA+2) ?_ _ _ Hrg.o underlying60 ?_ ?_ ?_);rfl;rfl;kernel_rfl)
     exact lq
    have s1:(f.kind.signs != [])=true:=cO;have s2:f.kind.signs.isEmpty=false:=cO;have s4:(!f.kind.signs.isEmpty)=true:=cO;have Hend:=Aa (he2.o.trans (Ve (by rw[Hnext.o,if_neg (fun h=>hsg h.1)])));clear hsg;go_wp2_with ((with_reducible refine wpList_load_mid (op:=⟨_,.load 60 _,_,_,_,none⟩) rfl 60 _ rfl bA (oA+2) ?_ _ _ Hrg.o underlying60 ?_ ?_ ?_);rfl;rfl;kernel_rfl)
    exact lq
   have t1:((y.ty.sort.toNat:Int) != 85)=true:=Qc (d:=85) h85;have Hend:=Aa (he2.o.trans (Ve (Qh0 h85)));clear h85;go_wp2_with fail;go_ret;exact⟨Em (Cz Hend.o.symm),hbr.o⟩
  ·obtain rfl:n=9:=aH;have Hend:=@Aa (Ca (Ag xs) 9 x.ty=false) he.o;go_wp2_with fail;go_ret;exact⟨Em (Cz Hend.o.symm),hbr.o⟩
theorem P8.kept{w w':World}{x:PT}{row:Option Nat}(h:P8 w x)(hg:w.grownBy w' row)(h1:row≠some x.blk)(h2:∀k,0<x.ty.fields.length->x.fv.ownBlock=some k->row≠some k):P8 w' x:=by
 obtain⟨h0,hk,a0,a1,a2,a3,A,c,e,hl,hr⟩:=h;have hne:some x.blk≠row:=fun e=>h1 e.symm;refine⟨ac h0 hg.size,hk.grown h0 hg hne,hg.cell a0 hne,hg.cell a1 hne,hg.cell a2 hne,hg.cell a3 hne,A,c,e,hl,hr.1,hr.2.1,fun hn=>?_⟩;obtain⟨b,off,eA,hb,hc⟩:=hr.2.2 hn;have hne2:some b≠row:=fun e2=>h2 b aH (by rw[e,eA];rfl) e2.symm;exact⟨b,off,eA,ac hb hg.size,fun j u hu=>hg.cell (hc j u hu) hne2⟩
theorem P8.fvlt{w:World}{x:PT}(h:P8 w x){k:Nat}(hn:0<x.ty.fields.length)(hk:x.fv.ownBlock=some k):k<w.heap.size:=by
 obtain⟨_,_,_,_,_,_,A,c,e,_,hr⟩:=h;obtain⟨b,off,eA,hb,_⟩:=hr.2.2 aH;rw[e,eA]at hk;simp only[Value.ownBlock,aj]at hk;omega
def Qfd(lo:Nat)(x:PT):Prop:=lo<=x.blk/\∀k,0<x.ty.fields.length->x.fv.ownBlock=some k->lo<=k
def Qkk(v:Value)(x:PT):Prop:=v.ownBlock≠some x.blk/\∀k,0<x.ty.fields.length->x.fv.ownBlock=some k->v.ownBlock≠some k
def Zk(w:World)(lo:Nat)(v:Value)(xs:List PT):Prop:=(∀x∈xs,P8 w x/\Qfd lo x/\Qkk v x)/\xs.Pairwise fun x y=>x.blk≠y.blk
theorem Zk.far{w w':World}{lo b:Nat}{v:Value}{xs:List PT}(h:Zk w lo v xs)(hg:w.grownBy w' (some b))(hb:b<lo):Zk w' lo v xs:=
 ⟨fun x hx=>by
  obtain⟨h1,h2,h3⟩:=h.1 x hx;refine⟨h1.kept hg (fun e=>?_) (fun k hn hk e=>?_),h2,h3⟩
  ·injection e with e;have:=h2.1;omega
  injection e with e;have:=h2.2 k hn hk;omega,h.2⟩
theorem Zk.below{w w':World}{lo:Nat}{v:Value}{xs:List PT}(h:Zk w lo v xs)(hb:Below w w w'):Zk w' lo v xs:=
 ⟨fun x hx=>⟨(h.1 x hx).1.below hb,(h.1 x hx).2⟩,h.2⟩
theorem Zk.push{wo w3 w5:World}{lo base n k1:Nat}{e:TypeId}{v v5:Value}{cs:List Value}{xs:List PT}{x:PT}(h:Zk wo lo v xs)(hb:Below wo wo w3)(hown:wo.ownsRow base e k1 v n cs)(hx:P8 w3 x)(hxb:wo.heap.size<=x.blk)
  (hxf:∀k,x.fv.ownBlock=some k->wo.heap.size<=k) (hlo:lo<=wo.heap.size) (hg:w3.grownBy w5 v.ownBlock) (hwh:v5.ownBlock=v.ownBlock\/∃k,v5.ownBlock=some k/\w3.heap.size<=k):Zk w5 lo v5 (xs++[x]):=by
 have hall:∀y∈xs++[x],P8 w3 y/\Qfd lo y/\Qkk v y:=by
  intro y hy;rcases af.1 hy with hy|hy
  ·obtain⟨h1,h2⟩:=h.1 y hy;exact⟨h1.below hb,h2⟩
  simp at hy;subst hy;refine⟨hx,⟨by omega,fun k _ hk=>by have:=hxf k hk;omega⟩,fun e=>?_,fun k _ hk e=>?_⟩
  ·have:=(hown.lt _ e).2;omega
  have:=(hown.lt _ e).2;have:=hxf k hk;omega
 refine⟨fun y hy=>?_,?_⟩
 ·obtain⟨h1,h2,h3⟩:=hall y hy;refine⟨h1.kept hg h3.1 h3.2,h2,?_⟩;rcases hwh with hwh|⟨k,hwh,hk⟩
  ·unfold Qkk;rw[hwh];exact h3
  refine⟨fun e=>?_,fun k2 hn hk2 e=>?_⟩
  ·rw[hwh]at e;injection e with e;have:=h1.1;omega
  rw[hwh]at e;injection e with e;have:=h1.fvlt hn hk2;omega
 rw[List.pairwise_append];refine⟨h.2,by simp,fun y hy z hz=>?_⟩;simp at hz;subst hz;have:=(h.1 y hy).1.1;omega
def Qa(lo:Nat)(w:World)(p:Value)(xs:List PT):Prop:=
 ∃b A c mb,p=.pointer (some ⟨b,0,none⟩)/\b<w.heap.size/\w.cell? ⟨b,0,none⟩=some (.slice A xs.length c)/\w.cell? ⟨b,1,none⟩=some (.map (some mb))/\B0 w A xs.length (xs.map (·.ptr))/\Qo w mb xs/\(∀x∈xs,P8 w x)/\(xs.Pairwise fun x y=>x.blk≠y.blk) /\
  lo<=b/\lo<=mb/\(∀g o,0<xs.length->A=some ⟨g,o,none⟩->lo<=g)/\∀x∈xs,Qfd lo x
theorem Qa.isc{lo:Nat}{w:World}{p:Value}{xs:List PT}(h:Qa lo w p xs):Sd w p xs:=by
 obtain⟨b,A,c,mb,h0,h1,h2,h3,h4,h5,h6,h7,_⟩:=h;exact⟨b,A,c,mb,h0,h1,h2,h3,h4,h5,h6,h7⟩
theorem Qa.below{lo:Nat}{w w':World}{p:Value}{xs:List PT}(h:Qa lo w p xs)(hb:Below w w w'):Qa lo w' p xs:=by
 obtain⟨b,A,c,mb,e,h0,h1,h2,h3,h4,h5,h6,h7⟩:=h;obtain⟨hc,_,hz⟩:=Cj hb;exact⟨b,A,c,mb,e,hz _ h0,(hc _ _ h0).trans h1,(hc _ _ h0).trans h2,h3.below hb,Dp.below h4 hb,fun x hx=>(h5 x hx).below hb,h6,h7⟩
theorem Qa.far{lo b0:Nat}{w w':World}{p:Value}{xs:List PT}(h:Qa lo w p xs)(hg:w.grownBy w' (some b0))(hb0:b0<lo):Qa lo w' p xs:=by
 obtain⟨b,A,c,mb,e,h0,h1,h2,h3,h4,h5,h6,l1,l2,l3,l4⟩:=h;have hne:some b≠some b0:=bW;refine⟨b,A,c,mb,e,ac h0 hg.size,hg.cell h1 hne,hg.cell h2 hne,⟨h3.1,h3.2.1,fun hn=>?_⟩,Dp.kept h4 hg bW,fun x hx=>(h5 x hx).kept hg (fun e=>?_) (fun k hn hk e=>?_),h6,l1,l2,l3,l4⟩
 ·obtain⟨g,o,eA,hgl,hc⟩:=h3.2.2 hn;have:=l3 g o hn eA;exact⟨g,o,eA,ac hgl hg.size,fun j u hu=>hg.cell (hc j u hu) (by intro e;injection e with e;simp at e;omega)⟩
 ·injection e with e;have:=(l4 x hx).1;omega
 injection e with e;have:=(l4 x hx).2 k hn hk;omega
def Jm(o:Option (List Ty))(w:World)(e:Ending)(w':World):Prop:=
 (match o with
  |some S=>∃p xs,Ag xs=S/\e=.returned (.tuple #[p,.bool true])/\Qa w.heap.size w' p xs
  |none=>∃p:Option Addr,e=.returned (.tuple #[.pointer p,.bool false]))/\Below w w w'
theorem Jm.no{w w':World}{e:Ending}{o:Option (List Ty)}(ho:o=none){p:Option Addr}(he:e=.returned (.tuple #[.pointer p,.bool false]))(hb:Below w w w'):Jm o w e w':=by
 rw[ho];exact⟨⟨p,he⟩,hb⟩
theorem Jm.yes{w w':World}{e:Ending}{o:Option (List Ty)}{p:Value}{xs:List PT}(ho:o=some (Ag xs))(he:e=.returned (.tuple #[p,.bool true]))(hs:Qa w.heap.size w' p xs)(hb:Below w w w'):Jm o w e w':=by
 rw[ho];exact⟨⟨p,xs,rfl,he,hs⟩,hb⟩
theorem Qda{xs:List PT}{x:PT}(h:D8 xs x.ty.name=none)(l:Lit)(hl:WideAt.IsKeyLit l):(if l.sameKey (.string x.ty.name)=true then x.ptr else Yp xs l)=Yp (xs++[x]) l:=by
 by_cases e:l=.string x.ty.name
 ·subst e;rw[if_pos (WideAt.sameKey_self hl)];unfold D8 at h;show x.ptr=Pq ((xs++[x]).find? fun y=>decide (y.ty.name=x.ty.name));rw[List.find?_append,h];simp[Pq]
 rw[if_neg (fun hh=>e ((WideAt.sameKey_iff (show WideAt.IsKeyLit (.string x.ty.name)from Ac)).1 hh))];cases l with
 |string s=>
  have hne:¬x.ty.name=s:=fun h2=>e (by rw[h2]);unfold Yp D8;simp only;rw[List.find?_append];simp[hne]
 |_=>rfl
theorem Ym{xs:List PT}{n:Cn}:D8 xs n=none↔(Ag xs).any (fun u=>decide (u.name=n))=false:=by
 unfold D8 Ag;rw[List.find?_eq_none,List.any_map];simp
theorem Tryz.infoPt:(prog.info? 90).map (fun i=>(i.zero,i.size,i.bytes))=some (some (.pointer none),1,8):=aN
theorem Qcl(s:List UInt8)(w:World)(hs:s.length<=4000000)(h:400<s.length):
  Calls prog 61 #[s] w (Jm (B9 s) w):=by
 have HF:=@Aa (B9 s=none) (if_pos h);have t1:(400:Int)<(s.length:Int):=aH;go_enter func61,ntmps61;go_wp2_with fail;go_ret2;exact Jm.no HF.o rfl (Ao _ _)
end
end Go.Proofs.YtmmhmlmfhpfgbaaGreatDoor
