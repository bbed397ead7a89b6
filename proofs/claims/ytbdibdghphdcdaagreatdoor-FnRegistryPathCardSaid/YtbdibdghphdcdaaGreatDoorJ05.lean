/- Texts joined. Conditions: as each theorem names them. -/
import Derived.Deep.MidRow
import Derived.BigRegion
import Derived.BigQuiet
import Derived.Deep.QuietTactic
import Derived.Test.YtbdibdghphdcdaaGreatDoorJ04
import Derived.Test.YtbdibdghphdcdaaGreatDoorJ15
set_option maxRecDepth 100000
set_option maxHeartbeats 32000000
set_option linter.unusedVariables false
set_option linter.unusedSimpArgs false
namespace Go.Proofs.YtbdibdghphdcdaaGreatDoor
open Go.RowKit Go.Proofs.Tryz
section
attribute [local go_sem] Qo7 Qok Qoa Ql9 ByteArray.mk_append_mk
inductive Bd:Vl->Prop
 |mk {w:UInt8} {tx:List UInt8} {tg:Nat} {ks:List Vl} (h1:tg<=1000000000) (h2:Dq (ks.map Bc)<=1000000) (h3:tx.length<=1000000) (h:∀x∈ks,Bd x):Bd (.mk w tx tg ks)
theorem Tb{w:World}{base k n:Nat}{e:TypeId}{v:Value}{xs:List Value}(h:w.ownsRow base e k v n xs):∃A m c,v=.slice A m c:=by
 rcases h.2 with⟨rfl,_⟩|⟨g,cap,cur,rfl,_⟩
 ·exact⟨_,_,_,rfl⟩
 exact⟨_,_,_,rfl⟩
theorem Qne{w:World}{base n m c:Nat}{e:TypeId}{A:Option Addr}{xs:List Value}(h:w.ownsRow base e 1 (.slice A m c) n xs):m=n/\n<=c\/n=0/\m=0:=by
 rcases h.2 with⟨e,h0⟩|⟨g,cap,cur,e,_,_,hnc,_⟩
 ·injection e with _ e1 e2;exact .inr ⟨h0,e1⟩
 injection e with _ e1 e2;subst e1 e2;exact .inl ⟨rfl,hnc⟩
theorem Qn2(w:UInt8)(tx:List UInt8)(tg:Nat)(ps:List (List UInt8)):Jg w tx tg ps=if w=116 then 39::(tx++[39])
  else if w=91 then 91::(Aw 44 ps++[93])else if w=63 then(if ps.length=0 then[45]else 43::Aw 44 ps)else if w=61 then Bb tg++61::Aw 44 ps else if w=82 then 123::(Aw 44 ps++[125])
  else if w=85 then 60::(Bb tg++61::(Aw 44 ps++[62]))else if w=69 then 35::Bb tg else tx:=by
 unfold Jg;cases ps<;>rfl
theorem Qfd(P:Nat->Prop)(v:Vl)(sl:Value)(w:World)(h:Eh P w sl v.kids)(hb:Bd v)
  (ih:∀x∈v.kids,∀s W,Eh P W s x.kids->Calls prog 18 #[Er x s] W fun e w'=>e=.returned (.string ⟨(Bc x).toArray⟩)/\Below W W w'):
  Calls prog 18 #[Er v sl] w fun e w'=>e=.returned (.string ⟨(Bc v).toArray⟩)/\Below w w w':=by
 have Ih:=Aa ih;obtain⟨wh,tx,tg,ks⟩:=v;obtain⟨h1,h2,h3,_⟩:=hb;have HF:=Aa (Np wh tx tg ks);simp only[Vl.kids]at h;have Ih:=@Aa (∀x∈ks,∀s W,Eh P W s x.kids->_) ih;obtain⟨A,c,xs,rfl,rfl,hl,hr,hP,hk⟩:=h;have Hr:=Aa hr;have Hk:=Aa hk;have hxl:(Bi xs).length=xs.length:=by simp[Bi]
 have Hd:=Aa (fun W=>Rt tg tg W (An _) h1);clear hr hk ih hP;unfold Er;simp only[Vl.what,Vl.text,Vl.tag];go_enter func18,ntmps18;go_wp2_with fail;obtain⟨w1,hw1⟩:∃w1,w1=w.alloc (.cells #[.int .u8 (wh.toNat:Int),tx,(tg:Int),.slice A xs.length c] 44):=⟨_,rfl⟩
 rw[<-hw1];have c0:w1.cell? (w,0)=some (.int .u8 (wh.toNat:Int)):=eV;have c1:w1.cell? (w,1)=tx:=eV;have c2:w1.cell? (w,2)=(tg:Int):=eV;have c3:w1.cell? (w,3)=some (.slice A xs.length c):=eV;have hz1:w1.heap.size=w.heap.size+1:=eV;have Hb1:=Aa (show Below w w w1 by rw[hw1];exact(Ap _ _).alloc (An _) _);have Hr1:=Aa (Hr.o.below Hb1.o);have Hk1:=Aa (fun x hx=>(Hk.o x hx).after Hb1.o);have hB:w.heap.size<w1.heap.size:=aH;generalize hB0:w.heap.size=B at *;have HB0:=Aa hB0;clear hB0;clear hw1 Hr Hk;go_loopw [10,3] (fun i u wr=>∃(m:Nat) (A3:Option Addr) (n3 q3:Nat),i=.int .i64 m/\u=.slice A3 n3 q3/\m<=xs.length/\Hid (wr.ownsRow w1 9 1 (.slice A3 n3 q3) m (Cb ((xs.take m).map fun x=>Bc x.1)))/\Hid (Below w1 w1 wr)) (fun i _ _=>xs.length - (intOf i).toNat)
 case atStart=>exact⟨0,none,0,0,rfl,rfl,ag _,World.ownsRow_nil _ _ _ _,Ap _ _⟩
 case round=>
  obtain⟨m,A3,n3,q3,rfl,rfl,hm,Hown,Hbr⟩:=hrel;have m1:(0:Int)<=(m:Int):=aH;by_cases hlt:m<xs.length
  ·have m2:(m:Int)<(xs.length:Int):=aH;obtain⟨b,off,rfl,hb,d0,d1,d2,d3⟩:=Eh.at_ (Hr1.o.below Hbr.o) hlt;have hkx:=(Hk1.o _ (ae hlt)).after Hbr.o;have Hkx:=Aa hkx;have Hmx:=@Aa (xs[m].1∈Bi xs) (ap (ae hlt));have Hts:=Aa (Cn xs m hlt);have hsz:w1.heap.size<=wr.heap.size:=Hbr.o.size;have hbn:¬(b=wr.heap.size):=aH;clear hkx;generalize xs[m]=x at *;obtain⟨y,ys⟩:=x;obtain⟨A7,c7,e7⟩:=Hkx.o.form;simp only at e7 d0 d1 d2 d3 Hkx Hmx;subst e7;have Hx:=Aa (fun W=>Ih.o y Hmx.o (.slice A7 y.kids.length c7) W);unfold Er at Hx;go_wp2_with fail;refine(Hx.o _ (Hkx.o.after ((Ap _ _).alloc (An _) _))).mono ?_;rintro e w3 ⟨rfl,hb3⟩;have Hb3:=Aa (((Ap _ _).alloc (An _) _).trans (hb3.mono aK));have Ho3:=Aa (Db Hown.o Hb3.o);have hs3:w1.heap.size<=w3.heap.size:=ad hsz Hb3.o.size;clear hb3;go_wp2_with (at_builtin;refine Ri _ rfl _ _ 64 rfl w1 9 a6 16 underlying64 Qe rfl w3 (.string ⟨(Bc y).toArray⟩) rfl rfl (.slice A3 n3 q3) m (Cb ((xs.take m).map fun x=>Bc x.1)) rfl rfl Ho3.o aU aH hs3 ?_;intro v' w5 hown5 hb5;obtain⟨A5,n5,c5,rfl⟩:=Tb hown5;have Ho:=Aa hown5;have Hb5:=Aa hb5;clear hown5 hb5)
   go_roundw
   case rel=>exact⟨m+1,A5,n5,c5,by go_num,rfl,by omega,(by rw[Hts.o,az,Qa9];exact Ho.o),(Hbr.o.trans (Hb3.o.mono hsz)).trans Hb5.o⟩
   case measure=>simp[intOf];omega
  ·obtain rfl:m=xs.length:=aH;have hown6:=Hown.o;rw[List.take_length]at hown6;have hrow:=Cd.own hown6;obtain⟨A6,c6,e6,hr6⟩:=hrow;have hcap:=Qne hown6;injection e6 with e7 e8 e9;subst e7 e8 e9;have Hps:=Aa (show (xs.map fun x=>Bc x.1)=(Bi xs).map Bc by simp[Bi]);have hpl:(xs.map fun x=>Bc x.1).length=xs.length:=aK
   have Hj:=Aa (fun W (hW:Cd W A3 xs.length (Cb (xs.map fun x=>Bc x.1)))=>(by
    have:=Qob A3 q3 (xs.map fun x=>Bc x.1) W (by rw[hpl];exact hW) (by rw[hpl];omega) (by rw[Hps.o];omega);rw[hpl]at this;exact this:Calls prog 32 #[.slice A3 xs.length q3,.string ⟨#[44]⟩] W fun e w'=>e=.returned (.string ⟨(Aw 44 (xs.map fun x=>Bc x.1)).toArray⟩)/\Below W W w'))
   have HF:=Aa (show Bc (.mk wh tx tg (Bi xs))=_ by rw[HF.o,<-Hps.o,Qn2,hpl]);have hjl:(Aw 44 (xs.map fun x=>Bc x.1)).length<=1000000:=by rw[Bz,Hps.o];omega
   have hdl:(Bb tg).length<=11:=Dk 10 tg (by have e:10 ^ (10+1)=100000000000:=rfl;omega);generalize (xs.map fun x=>Bc x.1)=ps at *;generalize Aw 44 ps=jt at *;have Hr6:=Aa hr6;have Hb6:=Aa (Hb1.o.trans (Hbr.o.mono aH));clear hown6 hr6 hcap Hps hpl Hown Ih Hk1 Hr1;go_wp2_with fail;refine(Hj.o _ Hr6.o).mono ?_;rintro e w4 ⟨rfl,hb4⟩;have Hb4:=Aa (Hb6.o.trans (hb4.mono fW));have hc4:=fun j=>(hb4.cell (p:=⟨B,j,none⟩) (show B<wr.heap.size by have:=Hbr.o.size;omega)).trans (Hbr.o.cell (p:=⟨B,j,none⟩) hB);have g0:=(hc4 0).trans c0;have g1:=(hc4 1).trans c1;have g2:=(hc4 2).trans c2;have g3:=(hc4 3).trans c3;clear hc4 hb4 Hj Hr6 Hb6 Hbr Hb1;by_cases a116:wh=116
   ·have HF:=Aa (HF.o.trans (if_pos a116));have t116:((wh.toNat:Int) == 116)=true:=Bm (d:=116) a116;clear a116;go_wp2_with fail;exact kE
   have HF:=Aa (HF.o.trans (if_neg a116));have t116:((wh.toNat:Int) == 116)=false:=Aq (d:=116) a116;clear a116;by_cases a91:wh=91
   ·have HF:=Aa (HF.o.trans (if_pos a91));have t91:((wh.toNat:Int) == 91)=true:=Bm (d:=91) a91;clear a91;go_wp2_with fail;exact kE
   have HF:=Aa (HF.o.trans (if_neg a91));have t91:((wh.toNat:Int) == 91)=false:=Aq (d:=91) a91;clear a91;by_cases a63:wh=63
   ·have HF:=Aa (HF.o.trans (if_pos a63));have t63:((wh.toNat:Int) == 63)=true:=Bm (d:=63) a63;clear a63;by_cases h0:xs.length=0
    ·have e0:((xs.length:Int) == 0)=true:=by simp[h0]
     have HF:=Aa (HF.o.trans (if_pos h0));clear h0;go_wp2_with fail;exact kG
    have e0:((xs.length:Int) == 0)=false:=cw;have HF:=Aa (HF.o.trans (if_neg h0));clear h0;go_wp2_with fail;exact kG
   have HF:=Aa (HF.o.trans (if_neg a63));have t63:((wh.toNat:Int) == 63)=false:=Aq (d:=63) a63;clear a63;by_cases a61:wh=61
   ·have HF:=Aa (HF.o.trans (if_pos a61));have t61:((wh.toNat:Int) == 61)=true:=Bm (d:=61) a61;clear a61;go_wp2_with fail;refine(Hd.o _).mono ?_;rintro e w5 ⟨rfl,hb5⟩;have Hb4:=Aa (Hb4.o.trans (hb5.mono eO));clear hb5;go_wp2_with fail;exact kE
   have HF:=Aa (HF.o.trans (if_neg a61));have t61:((wh.toNat:Int) == 61)=false:=Aq (d:=61) a61;clear a61;by_cases a82:wh=82
   ·have HF:=Aa (HF.o.trans (if_pos a82));have t82:((wh.toNat:Int) == 82)=true:=Bm (d:=82) a82;clear a82;go_wp2_with fail;exact kE
   have HF:=Aa (HF.o.trans (if_neg a82));have t82:((wh.toNat:Int) == 82)=false:=Aq (d:=82) a82;clear a82;by_cases a85:wh=85
   ·have HF:=Aa (HF.o.trans (if_pos a85));have t85:((wh.toNat:Int) == 85)=true:=Bm (d:=85) a85;clear a85;go_wp2_with fail;refine(Hd.o _).mono ?_;rintro e w5 ⟨rfl,hb5⟩;have Hb4:=Aa (Hb4.o.trans (hb5.mono eO));clear hb5;go_wp2_with fail;exact kE
   have HF:=Aa (HF.o.trans (if_neg a85));have t85:((wh.toNat:Int) == 85)=false:=Aq (d:=85) a85;clear a85;by_cases a69:wh=69
   ·have HF:=Aa (HF.o.trans (if_pos a69));have t69:((wh.toNat:Int) == 69)=true:=Bm (d:=69) a69;clear a69;go_wp2_with fail;refine(Hd.o _).mono ?_;rintro e w5 ⟨rfl,hb5⟩;have Hb4:=Aa (Hb4.o.trans (hb5.mono eO));clear hb5;go_wp2_with fail;exact kE
   have HF:=Aa (HF.o.trans (if_neg a69));have t69:((wh.toNat:Int) == 69)=false:=Aq (d:=69) a69;clear a69;go_wp2_with fail;exact kG
theorem Td(P:Nat->Prop){v:Vl}(hb:Bd v):∀(sl:Value) (w:World),Eh P w sl v.kids ->
  Calls prog 18 #[Er v sl] w fun e w'=>e=.returned (.string ⟨(Bc v).toArray⟩)/\Below w w w':=by
 induction hb with
 |mk h1 h2 h3 h ih=>exact fun sl w hk=>Qfd P _ sl w hk (.mk h1 h2 h3 h) fun x hx s W hs=>ih x hx s W hs
section
variable {P:Program}
theorem Bj{fn:Func}{p:Tmp}{ty:TypeId}(h:fn.results=#[.cell p ty])(tmps:Array Value)(w:World)(b:Nat)(cs:List Value)(d:TypeDesc)
  (hp:tmps.getD p undef=b) (hc:w.rangeAt b 0 cs) (hu:P.underlying ty=some d) (hd:d.isRow=true) (hi:(P.info? ty).map (·.size)=some cs.length):
  (results fn tmps).run P w=.ok (.agg cs.toArray) w:=by
 have hp':tmps[p]?.getD undef=b:=eD;simp[results,h,hp',asAddr,run_loadVar_mid w b 0 ty cs d hc hu hd hi]
end
theorem Kj(b nm:ByteArray)(w:World):Calls prog 83 #[.agg #[a6,.string b,.string nm]] w fun e w'=>e=.returned (.int .u8 0)/\Below w w w':=by
 go_enter func83,ntmps83;go_wp2_with fail;go_ret;exact⟨rfl,(Ap _ _).alloc (An _) _⟩
theorem Nn(c:UInt8)(t:List UInt8)(hl:t.length<=1000)(b nm:ByteArray)(w:World):Calls prog 83 #[.agg #[.string ⟨(c::t).toArray⟩,.string b,.string nm]] w fun e w'=>e=.returned (.int .u8 (c.toNat:Int))/\Below w w w':=by
 go_enter func83,ntmps83;go_wp2_with fail;go_ret;exact⟨rfl,(Ap _ _).alloc (An _) _⟩
theorem Vy(k:Kd)(w:World)(c:UInt8)(t:List UInt8)(hs:k.signs=c::t)(hl:t.length<=1000):
  Calls prog 58 #[Et k] w fun e w'=>e=.returned (Et k.part)/\Below w w w':=by
 have hp:k.part=⟨t,k.base,k.name⟩:=by unfold Kd.part;rw[hs];rfl
 rw[hp];unfold Et;rw[hs];clear hp hs;go_enter func58,ntmps58;go_wp2_with fail;refine aF (v:=.agg ([t,k.base,k.name]:List Value).toArray) ?_ rfl ?_
 ·refine Bj results58 _ _ (w.heap.size+1) _ _ rfl ?_ underlying50 rfl aL;intro j v hv;match j,hv with
  |0,hv=>simp at hv;subst hv;simp[go_sem]
  |1,hv=>simp at hv;subst hv;simp[go_sem]
  |2,hv=>simp at hv;subst hv;simp[go_sem]
  |n+3,hv=>simp at hv
 exact⟨rfl,((Ap _ _).alloc (An _) _).alloc aK _⟩
theorem Qcy{w W:World}{row:Option Nat}{B o:Nat}(h:w.grownBy W row)(hB:w.heap.size<=B):∀(cs:List Value) (o:Nat),w.grownBy (W.setCells B o cs) row:=by
 intro cs;induction cs generalizing W with
 |nil=>intro o;exact h
 |cons v cs ih=>
  intro o;refine ih (W:=W.setCell ⟨B,o,none⟩ v) ⟨h.os,h.tape,h.output,by simpa using h.size,fun k hk hne=>?_⟩ (o+1);rw[Go.heap_setCell_other _ _ _ _ (show k≠B by omega)];exact h.block k hk hne
theorem D9.trans{w w1 w2:World}{b:Nat}{p:Value}{t t':List UInt8}{x y:Bool}(h1:D9 w b p t x w1)(h2:D9 w1 b p t' y w2):D9 w b p t' y w2:=⟨h2.1,h1.2.trans h2.2⟩
theorem D9.pre{w w1 w2:World}{b:Nat}{p:Value}{t:List UInt8}{x:Bool}(hb:Below w w w1)(h:D9 w1 b p t x w2):D9 w b p t x w2:=⟨h.1,(Cm hb _).trans h.2⟩
theorem D9.post{w w1 w2:World}{b:Nat}{p:Value}{t:List UInt8}{x:Bool}(h:D9 w b p t x w1)(hb:Below w1 w1 w2):D9 w b p t x w2:=⟨h.1.grow hb,h.2.trans (Cm hb _)⟩
theorem D9.set{w W:World}{b B:Nat}{p:Value}{t:List UInt8}{x:Bool}(h:D9 w b p t x W)(hB:w.heap.size<=B)(hne:B≠b)(cs:List Value):D9 w b p t x (W.setCells B 0 cs):=by
 obtain⟨⟨h0,h1,h2,h3,h4⟩,hg⟩:=h;have hk:(W.setCells B 0 cs).heap[b]?=W.heap[b]?:=(Bx B cs 0 W).block b h0 (by simpa using hne.symm);have hc:∀o,(W.setCells B 0 cs).cell? ⟨b,o,none⟩=W.cell? ⟨b,o,none⟩:=fun o=>World.cell?_of_block (a:=⟨b,o,none⟩) hk;obtain⟨c1,t1,e1⟩:=h1;exact⟨⟨by rw[Ce];exact h0,⟨c1,t1,hk.trans e1⟩,(hc 0).trans h2,(hc 1).trans h3,(hc 2).trans h4⟩,Qcy (o:=0) hg hB cs 0⟩
theorem D9.env{w0 w w1:World}{b:Nat}{p:Value}{t:List UInt8}{x:Bool}(h:D9 w b p t x w1)(h0:Below w0 w0 w)(hb:w0.heap.size<=b):Below w0 w0 w1:=
 h0.grown h.2 h0.size fun k hk=>by injection hk with hk;omega
theorem Eh.set{P:Nat->Prop}{w:World}{v:Value}{ks:List Vl}(h:Eh P w v ks){B:Nat}(hB:¬P B)(cs:List Value):Eh P (w.setCells B 0 cs) v ks:=
 h.grown (Bx B cs 0 w) fun b hb e=>by injection e with e;subst e;exact hB hb
def Nc(w:World)(b:Nat)(p:Value)(t:List UInt8)(N:Nat)(r:Option (Vl × List UInt8))(e:Ending)(w':World):Prop:=
 ∃(v:Vl) (sl:Value) (t':List UInt8),e=.returned (Er v sl)/\Eh (fun b=>w.heap.size<=b) w' sl v.kids/\D9 w b p t' r.isNone w'/\(∀x,r=some x->v=x.1/\t'=x.2)/\Bd v/\t'.length<=t.length/\(Bc v).length+t'.length<=t.length+8*N
def Fm:Vl:=.mk 0 [] 0 []
theorem Gb{w:UInt8}{tx:List UInt8}{tg:Nat}(h1:tg<=1000000000)(h3:tx.length<=1000000):Bd (.mk w tx tg []):=.mk h1 dU h3 aK
theorem Sp.range{w:World}{A:Option Addr}{fs:List Fd}(hr:Cd w A (fs.length*6) (fs.flatMap Vp)){i:Nat}(hi:i<fs.length):∃b off,A=some ⟨b,off,none⟩/\b<w.heap.size/\w.rangeAt b (off+i*6) (Vp fs[i]):=by
 obtain⟨b,off,e,hlt,hc⟩:=hr.elem Qhv (by decide) hi
 exact⟨b,off,e,hlt,fun j v hv=>by rw[Nat.add_assoc];exact hc j v hv⟩
theorem M7(c:UInt8)(s:List UInt8):(Dp c s).1.length<=s.length/\(Dp c s).2.1.length<=s.length:=by
 rcases Gk c s with⟨_,h⟩|⟨p,t,rfl,_,h⟩
 ·rw[h];simp
 rw[h];simp;omega
def Pd(st:UInt8)(ps:List (List UInt8))(vl:List UInt8)(td:Bool):Option Fd:=
 if st=69 then
  match Mv ps with
  |some (n,b)=>if td=true then none else some ⟨n,b,Kd.nil,vl⟩
  |none=>none
 else
  match Ns ps with
  |some (n,b,c)=>(match Dd c with
   |some k=>if td=true/\¬(st=82/\k.signs=[]/\Ck k.base vl=true)then none else some ⟨n,b,k,vl⟩
   |none=>none)
  |none=>none
theorem Qbs(st:UInt8)(s:List UInt8):Jw st s=Pd st (Al 58 (Dp 61 s).1) (Dp 61 s).2.1 (Dp 61 s).2.2:=rfl
theorem Zo{st:UInt8}{ps:List (List UInt8)}{vl:List UInt8}{td:Bool}(h:ps.length≠if st=69 then 2 else 3):Pd st ps vl td=none:=by
 unfold Pd;by_cases e:st=69
 ·rw[if_pos e]at h ⊢;match ps,h with
  |[],_=>rfl
  |[_],_=>rfl
  |[_,_],h=>exact absurd rfl h
  |_::_::_::_,_=>rfl
 rw[if_neg e]at h ⊢;match ps,h with
 |[],_=>rfl
 |[_],_=>rfl
 |[_,_],_=>rfl
 |[_,_,_],h=>exact absurd rfl h
 |_::_::_::_::_,_=>rfl
def Qd(a b:List UInt8)(n:Nat):Prop:=Dc a=some n/\1<=n/\n<=200/\Bh b=true
theorem Yb{st:UInt8}{a b:List UInt8}{r:List (List UInt8)}{vl:List UInt8}{td:Bool}(h:∀n,¬Qd a b n):Pd st (a::b::r) vl td=none:=by
 have h2:∀c,Mv (a::b::c)=none:=by
  intro c;match c with
  |[]=>
   cases hd:Dc a with
   |none=>simp only[Mv,hd]
   |some n=>simp only[Mv,hd];exact if_neg fun(e:1<=n/\n<=200/\Bh b=true)=>h n ⟨hd,e.1,e.2.1,e.2.2⟩
  |_::_=>rfl
 have h3:∀c,Ns (a::b::c)=none:=by
  intro c;match c with
  |[]=>rfl
  |[x]=>
   cases hd:Dc a with
   |none=>simp only[Ns,hd]
   |some n=>simp only[Ns,hd];exact if_neg fun(e:1<=n/\n<=200/\Bh b=true)=>h n ⟨hd,e.1,e.2.1,e.2.2⟩
  |_::_::_=>rfl
 unfold Pd;rw[h2,h3];split<;>rfl
theorem Ql5{a b:List UInt8}{vl:List UInt8}{td:Bool}{n:Nat}(h:Qd a b n):Pd 69 [a,b] vl td=if td=true then none else some ⟨n,b,Kd.nil,vl⟩:=by
 obtain⟨h1,h2,h3,h4⟩:=h;unfold Pd Mv;simp[h1,h2,h3,h4]
theorem Qk1{st:UInt8}{a b c:List UInt8}{vl:List UInt8}{td:Bool}{n:Nat}(hst:st≠69)(h:Qd a b n):Pd st [a,b,c] vl td=(match Dd c with
   |some k=>if td=true/\¬(st=82/\k.signs=[]/\Ck k.base vl=true)then none else some ⟨n,b,k,vl⟩
   |none=>none):=by
 obtain⟨h1,h2,h3,h4⟩:=h;unfold Pd Ns;simp[h1,h2,h3,h4,hst]
theorem Qf2{k:Kd}(h:Qc6 k):Qnn k.base:=by
 rcases h with⟨h,_⟩|⟨h|h|h,_⟩
 ·exact .inr (.inr (.inr h))
 ·exact .inl h
 ·exact .inr (.inl h)
 exact .inr (.inr (.inl h))
theorem Qns{ps:List (List UInt8)}(h:ps.length=2):∃a b,ps=[a,b]:=by
 match ps,h with
 |[a,b],_=>exact⟨a,b,rfl⟩
theorem Qnv{ps:List (List UInt8)}(h:ps.length=3):∃a b c,ps=[a,b,c]:=by
 match ps,h with
 |[a,b,c],_=>exact⟨a,b,c,rfl⟩
theorem Xw{w:World}{b o n:Nat}(h:w.there b o n)(k:Nat):(w.drewN k).there b o n:=by
 induction k generalizing w with
 |zero=>exact h
 |succ k ih=>exact ih aQ
theorem Qkm(st:UInt8)(hst:st=69)(s:List UInt8)(w:World)(hs:s.length<=4000000):
  Calls prog 118 #[s,.int .u8 (st.toNat:Int)] w (En (Jw st s) w):=by
 have HF:=Aa (Qbs st s);have Hcut:=Aa (fun W=>Tw s 61 W aH);have hcl:=(M7 61 s).1;have hvl:=(M7 61 s).2;generalize Dp 61 s=r at HF Hcut hcl hvl;obtain⟨hd,vl,td⟩:=r;simp only at hcl hvl HF;have Hsp:=Aa (fun W=>Xb hd 58 W aH);have hne:=E8 58 hd;have Hpl:=Aa (As 58 hd);generalize Al 58 hd=ps at HF Hsp hne Hpl;have e69:((st.toNat:Int) == 69)=true:=Bm hst;have n69:((st.toNat:Int) != 69)=false:=Nz hst;have Hst0:=Aa hst;clear hst;go_enter func118,ntmps118;go_wp2_with fail;refine(Hcut.o _).mono ?_;rintro e w1 ⟨rfl,k1,rfl⟩;unfold Qfs;go_wp2_with fail;refine(Hsp.o _).mono ?_;rintro e w2 ⟨v,rfl,ho,hb⟩;obtain⟨g,c,rfl,hg1,hg2,hcells⟩:=Pw ho hne;have hzz:w.heap.size<w2.heap.size:=by have:=hb.size;simp at this;omega
 have HT:=@Aa (w2.there w 0 6) (Aj (Xw (Bu w [.int .i64 0,a6,a6,a6,a6,a6] 122) k1) aK hb);have Hb:=@Aa (Below w w w2) ((below_drewN ((Ap w.heap.size w).alloc (An _) _) k1).trans (hb.mono aK));have Hcells:=Aa hcells;clear hb ho hcells hne;by_cases hlen:ps.length=2
 ·obtain⟨a,b,rfl⟩:=Qns hlen;have c0:=Hcells.o 0 aK;have c1:=Hcells.o 1 aK;simp at c0 c1;have la:a.length<=4000000:=by have:=Hpl.o a aK;omega
  have lb:b.length<=4000000:=by have:=Hpl.o b aK;omega
  clear Hpl Hcells hlen;have hpn:=fun W=>(show Calls prog 111 #[a,.int .i64 200] W fun e w'=>e=.returned (pnV a 200)/\W=w' from Ju a 200 W aH aJ)
  have Hhead:=@Aa (∀n,Qd a b n↔Dc a=some n/\1<=n/\n<=200/\Bh b=true) (fun n=>Iff.rfl);have Hno:=Aa (fun(h:∀n,¬Qd a b n)=>HF.o.trans (Yb h));generalize hda:Dc a=od at *;have Hda:=Aa hda;clear hda;cases od with
  |none=>
   have Hpn:=Aa (fun W=>(Tp (m:=200) Hda.o) ▸ hpn W);clear hpn;go_wp2_with fail;refine(Hpn.o _).mono ?_;rintro e w3 ⟨rfl,rfl⟩;go_wp2_with ((with_reducible refine Ad (op:=⟨none,.store 122 _ _,_,_,_,none⟩) rfl 122 _ _ rfl w 0 [.int .i64 0,a6,a6,a6,a6,a6] ?_ ?_ ?_ ?_ ?_ ?_);rfl;rfl;(first|exact ar HT.o _|exact HT.o);kernel_rfl;(simp[Value.oneCell']);intro w9 HS9)
   have HZ:=@Aa (w9.rangeAt w 0 [.int .i64 0,a6,a6,a6,a6,a6]) bu;refine aF (v:=.tuple #[.agg ([.int .i64 0,a6,a6,a6,a6,a6]:List Value).toArray,.bool false]) ?_ rfl ?_
   ·exact iC
   exact kW
  |some n=>
   have Hpn:=Aa (fun W=>(Yq (m:=200) Hda.o) ▸ hpn W);clear hpn;have hn9:n<=999999:=(Co.1 Hda.o).1;rcases aG 200 n with h200|h200
   ·exact iJ
   have Hdec:=Aa (show decide (n<=200)=true by simp;omega);rw[Hdec.o]at Hpn;rcases Nat.eq_zero_or_pos n with h0|h0
   ·exact iK
   have hlt1:decide ((n:Int)<1)=false:=eT;have Hname:=Aa (fun W=>Nf b W aH);generalize hnb:Bh b=nb at *;have Hnb:=Aa hnb;clear hnb;go_wp2_with fail;refine(Hpn.o _).mono ?_;rintro e w3 ⟨rfl,rfl⟩;go_wp2_with fail;refine(Hname.o _).mono ?_;rintro e w4 ⟨rfl,hb4⟩;have hz4:w2.heap.size<w4.heap.size:=eS;have HT4:=@Aa (w4.there w 0 6) (Aj (ar HT.o _) aM hb4);have HR4:=@Aa (w4.rangeAt w2 0 [(n:Int),b,a6,a6,a6,vl]) (Ah (Bk w2 _ _) aK hb4);have HK4:=@Aa (w4.there w2 0 6) (Aj (Bu w2 [(n:Int),b,a6,a6,a6,vl] _) aK hb4);have Hb4:=@Aa (Below w w w4) ((Hb.o.alloc Hb.o.size _).trans (hb4.mono aM));clear hb4;cases nb with
   |false=>
    go_wp2_with ((with_reducible refine Ad (op:=⟨none,.store 122 _ _,_,_,_,none⟩) rfl 122 _ _ rfl w 0 [.int .i64 0,a6,a6,a6,a6,a6] ?_ ?_ ?_ ?_ ?_ ?_);rfl;rfl;(first|exact ar HT4.o _|exact HT4.o);kernel_rfl;(simp[Value.oneCell']);intro w9 HS9)
    have HZ:=@Aa (w9.rangeAt w 0 [.int .i64 0,a6,a6,a6,a6,a6]) cp;refine aF (v:=.tuple #[.agg ([.int .i64 0,a6,a6,a6,a6,a6]:List Value).toArray,.bool false]) ?_ rfl ?_
    ·exact iC
    exact kX
   |true=>
    have Hok:=@Aa (Qd a b n) ((Hhead.o n).2 ⟨rfl,h0,h200,rfl⟩);have HF2:=Aa (HF.o.trans (show Pd st [a,b] vl td=if td=true then none else some ⟨n,b,Kd.nil,vl⟩from by rw[Hst0.o];exact Ql5 Hok.o));clear Hno Hhead HF;have n82:((st.toNat:Int) != 82)=true:=Rl (c:=st) (d:=82) (by rw[Hst0.o];decide);cases td with
    |true=>
     go_wp2_with ((with_reducible refine Ad (op:=⟨none,.store 122 _ _,_,_,_,none⟩) rfl 122 _ _ rfl w 0 [.int .i64 0,a6,a6,a6,a6,a6] ?_ ?_ ?_ ?_ ?_ ?_);rfl;rfl;(first|exact ar HT4.o _|exact HT4.o);kernel_rfl;(simp[Value.oneCell']);intro w9 HS9)
     have HZ:=@Aa (w9.rangeAt w 0 [.int .i64 0,a6,a6,a6,a6,a6]) cp;refine aF (v:=.tuple #[.agg ([.int .i64 0,a6,a6,a6,a6,a6]:List Value).toArray,.bool false]) ?_ rfl ?_
     ·exact iC
     exact En.no (HF2.o.trans aK) rfl bI
    |false=>
     go_wp2_with (first|((with_reducible refine Ad (op:=⟨none,.store 122 _ _,_,_,_,none⟩) rfl 122 _ _ rfl w 0 [(n:Int),b,a6,a6,a6,vl] ?_ ?_ ?_ ?_ ?_ ?_);rfl;rfl;(first|exact ar HT4.o _|exact HT4.o);kernel_rfl;(simp[Value.oneCell']);intro w9 HS9)|((with_reducible refine wpList_load_mid (op:=⟨_,.load 122 _,_,_,_,none⟩) rfl 122 _ rfl w2 0 ?_ [(n:Int),b,a6,a6,a6,vl] _ HR4.o underlying122 ?_ ?_ ?_);rfl;rfl;kernel_rfl))
     have HZ:=@Aa (w9.rangeAt w 0 [(n:Int),b,a6,a6,a6,vl]) cp;refine aF (v:=.tuple #[.agg ([(n:Int),b,a6,a6,a6,vl]:List Value).toArray,.bool true]) ?_ rfl ?_
     ·exact Am results118 _ _ w.heap.size [(n:Int),b,a6,a6,a6,vl] _ _ rfl rfl HZ.o underlying122 rfl aL
     exact En.yes (HF2.o.trans (if_neg (fun h=>by cases h))) rfl bI
 have Hno:=Aa (HF.o.trans (Zo (vl:=vl) (td:=td) (st:=st) (ps:=ps) (by rw[if_pos Hst0.o];exact hlen)));have hl1:¬(ps.length:Int)=2:=aH;have hl2:((ps.length:Int) != 2)=true:=by rw[bne_iff_ne];exact hl1
 clear HF Hpl Hcells;go_wp2_with ((with_reducible refine Ad (op:=⟨none,.store 122 _ _,_,_,_,none⟩) rfl 122 _ _ rfl w 0 [.int .i64 0,a6,a6,a6,a6,a6] ?_ ?_ ?_ ?_ ?_ ?_);rfl;rfl;(first|exact ar HT.o _|exact HT.o);kernel_rfl;(simp[Value.oneCell']);intro w9 HS9)
 have HZ:=@Aa (w9.rangeAt w 0 [.int .i64 0,a6,a6,a6,a6,a6]) bu;refine aF (v:=.tuple #[.agg ([.int .i64 0,a6,a6,a6,a6,a6]:List Value).toArray,.bool false]) ?_ rfl ?_
 ·exact iC
 exact En.no Hno.o rfl aX
theorem Qks(st:UInt8)(hst:st≠69)(s:List UInt8)(w:World)(hs:s.length<=4000000):
  Calls prog 118 #[s,.int .u8 (st.toNat:Int)] w (En (Jw st s) w):=by
 have HF:=Aa (Qbs st s);have Hcut:=Aa (fun W=>Tw s 61 W aH);have hcl:=(M7 61 s).1;have hvl:=(M7 61 s).2;generalize Dp 61 s=r at HF Hcut hcl hvl;obtain⟨hd,vl,td⟩:=r;simp only at hcl hvl HF;have Hsp:=Aa (fun W=>Xb hd 58 W aH);have hne:=E8 58 hd;have Hpl:=Aa (As 58 hd);generalize Al 58 hd=ps at HF Hsp hne Hpl;have e69:((st.toNat:Int) == 69)=false:=Aq hst;have n69:((st.toNat:Int) != 69)=true:=Rl hst;have Hst0:=Aa hst;clear hst;go_enter func118,ntmps118;go_wp2_with fail;refine(Hcut.o _).mono ?_;rintro e w1 ⟨rfl,k1,rfl⟩;unfold Qfs;go_wp2_with fail;refine(Hsp.o _).mono ?_;rintro e w2 ⟨v,rfl,ho,hb⟩;obtain⟨g,c,rfl,hg1,hg2,hcells⟩:=Pw ho hne;have hzz:w.heap.size<w2.heap.size:=by have:=hb.size;simp at this;omega
 have HT:=@Aa (w2.there w 0 6) (Aj (Xw (Bu w [.int .i64 0,a6,a6,a6,a6,a6] 122) k1) aK hb);have Hb:=@Aa (Below w w w2) ((below_drewN ((Ap w.heap.size w).alloc (An _) _) k1).trans (hb.mono aK));have Hcells:=Aa hcells;clear hb ho hcells hne;by_cases hlen:ps.length=3
 ·obtain⟨a,b,d,rfl⟩:=Qnv hlen;have c0:=Hcells.o 0 aK;have c1:=Hcells.o 1 aK;have c2:=Hcells.o 2 aK;simp at c0 c1 c2;have la:a.length<=4000000:=by have:=Hpl.o a aK;omega
  have lb:b.length<=4000000:=by have:=Hpl.o b aK;omega
  have ld:d.length<=4000000:=by have:=Hpl.o d aK;omega
  clear Hpl Hcells hlen;have hpn:=fun W=>(show Calls prog 111 #[a,.int .i64 200] W fun e w'=>e=.returned (pnV a 200)/\W=w' from Ju a 200 W aH aJ)
  have Hhead:=@Aa (∀n,Qd a b n↔Dc a=some n/\1<=n/\n<=200/\Bh b=true) (fun n=>Iff.rfl);have Hno:=Aa (fun(h:∀n,¬Qd a b n)=>HF.o.trans (Yb h));generalize hda:Dc a=od at *;have Hda:=Aa hda;clear hda;cases od with
  |none=>
   have Hpn:=Aa (fun W=>(Tp (m:=200) Hda.o) ▸ hpn W);clear hpn;go_wp2_with fail;refine(Hpn.o _).mono ?_;rintro e w3 ⟨rfl,rfl⟩;go_wp2_with ((with_reducible refine Ad (op:=⟨none,.store 122 _ _,_,_,_,none⟩) rfl 122 _ _ rfl w 0 [.int .i64 0,a6,a6,a6,a6,a6] ?_ ?_ ?_ ?_ ?_ ?_);rfl;rfl;(first|exact ar HT.o _|exact HT.o);kernel_rfl;(simp[Value.oneCell']);intro w9 HS9)
   have HZ:=@Aa (w9.rangeAt w 0 [.int .i64 0,a6,a6,a6,a6,a6]) bu;refine aF (v:=.tuple #[.agg ([.int .i64 0,a6,a6,a6,a6,a6]:List Value).toArray,.bool false]) ?_ rfl ?_
   ·exact iC
   exact kW
  |some n=>
   have Hpn:=Aa (fun W=>(Yq (m:=200) Hda.o) ▸ hpn W);clear hpn;have hn9:n<=999999:=(Co.1 Hda.o).1;rcases aG 200 n with h200|h200
   ·exact iJ
   have Hdec:=Aa (show decide (n<=200)=true by simp;omega);rw[Hdec.o]at Hpn;rcases Nat.eq_zero_or_pos n with h0|h0
   ·exact iK
   have hlt1:decide ((n:Int)<1)=false:=eT;have Hname:=Aa (fun W=>Nf b W aH);generalize hnb:Bh b=nb at *;have Hnb:=Aa hnb;clear hnb;go_wp2_with fail;refine(Hpn.o _).mono ?_;rintro e w3 ⟨rfl,rfl⟩;go_wp2_with fail;refine(Hname.o _).mono ?_;rintro e w4 ⟨rfl,hb4⟩;have hz4:w2.heap.size<w4.heap.size:=eS;have HT4:=@Aa (w4.there w 0 6) (Aj (ar HT.o _) aM hb4);have HR4:=@Aa (w4.rangeAt w2 0 [(n:Int),b,a6,a6,a6,vl]) (Ah (Bk w2 _ _) aK hb4);have HK4:=@Aa (w4.there w2 0 6) (Aj (Bu w2 [(n:Int),b,a6,a6,a6,vl] _) aK hb4);have Hb4:=@Aa (Below w w w4) ((Hb.o.alloc Hb.o.size _).trans (hb4.mono aM));have c2x:w4.cell? (g,2)=d:=(hb4.cell (p:=⟨g,2,none⟩) aM).trans (by rw[World.cell?_alloc_old _ _ _ aM];exact c2);clear hb4;cases nb with
   |false=>
    go_wp2_with ((with_reducible refine Ad (op:=⟨none,.store 122 _ _,_,_,_,none⟩) rfl 122 _ _ rfl w 0 [.int .i64 0,a6,a6,a6,a6,a6] ?_ ?_ ?_ ?_ ?_ ?_);rfl;rfl;(first|exact ar HT4.o _|exact HT4.o);kernel_rfl;(simp[Value.oneCell']);intro w9 HS9)
    have HZ:=@Aa (w9.rangeAt w 0 [.int .i64 0,a6,a6,a6,a6,a6]) cp;refine aF (v:=.tuple #[.agg ([.int .i64 0,a6,a6,a6,a6,a6]:List Value).toArray,.bool false]) ?_ rfl ?_
    ·exact iC
    exact kX
   |true=>
    have Hok:=@Aa (Qd a b n) ((Hhead.o n).2 ⟨rfl,h0,h200,rfl⟩);have HF2:=Aa (HF.o.trans (Qk1 (c:=d) (vl:=vl) (td:=td) Hst0.o Hok.o));clear Hno Hhead HF;have Hkd:=Aa (fun W=>Vf d W ld);have Hkok:=Aa (fun k (h:Dd d=some k)=>(Fr.1 h).1);generalize Dd d=ok at HF2 Hkd Hkok;go_wp2_with fail;refine(Hkd.o _).mono ?_;rintro e w5 ⟨hcase,hb5⟩;have HT5:=@Aa (w5.there w 0 6) (Aj HT4.o aH hb5);have HR5:=@Aa (w5.rangeAt w2 0 _) (Ah HR4.o hz4 hb5);have HK5:=@Aa (w5.there w2 0 6) (Aj HK4.o hz4 hb5);have Hb5:=Aa (Hb4.o.trans (hb5.mono Hb4.o.size));have hz5:w2.heap.size<w5.heap.size:=ac hz4 hb5.size;clear hb5;cases ok with
    |none=>
     obtain⟨a1,a2,a3,rfl⟩:=hcase;go_wp2_with (first|((with_reducible refine Ad (op:=⟨none,.store 50 _ _,_,_,_,none⟩) rfl 50 _ _ rfl w2 2 [.string a1,.string a2,.string a3] ?_ ?_ ?_ ?_ ?_ ?_);rfl;rfl;(exact M5 HK5.o 2 3 aJ aJ);kernel_rfl;(simp[Value.oneCell']);intro w6 HS6;have HT6:=@Aa (w6.there w 0 6) (HS6.o ▸ ai HT5.o _ _ _);have HR6:=@Aa (w6.rangeAt w2 0 [(n:Int),b,.string a1,.string a2,.string a3,vl]) (HS6.o ▸ Cr [(n:Int),b] [a6,a6,a6] [vl] [.string a1,.string a2,.string a3] HR5.o rfl);have Hb6:=@Aa (Below w w w6) (HS6.o ▸ Ai _ (Nat.le_of_lt hzz) _ _ _ Hb5.o);have hz6:w2.heap.size<w6.heap.size:=dI;have z2:w6.cell? (w2,2)=some (.string a1):=dk;have z3:w6.cell? (w2,3)=some (.string a2):=dl;clear HT5 HR5 HK5 HS6)|((with_reducible refine Ad (op:=⟨none,.store 122 _ _,_,_,_,none⟩) rfl 122 _ _ rfl w 0 [.int .i64 0,a6,a6,a6,a6,a6] ?_ ?_ ?_ ?_ ?_ ?_);rfl;rfl;(first|exact ar HT6.o _|exact HT6.o);kernel_rfl;(simp[Value.oneCell']);intro w9 HS9))
     have HZ:=@Aa (w9.rangeAt w 0 [.int .i64 0,a6,a6,a6,a6,a6]) cq;refine aF (v:=.tuple #[.agg ([.int .i64 0,a6,a6,a6,a6,a6]:List Value).toArray,.bool false]) ?_ rfl ?_
     ·exact iC
     exact En.no HF2.o rfl bJ
    |some k=>
     have hcase':e=.returned (.tuple #[.agg #[k.signs,k.base,k.name],.bool true]):=hcase;subst hcase';clear hcase;have Hkk:=Aa (Hkok.o k rfl);have HF3:=@Aa (Jw st s=if td=true/\¬(st=82/\k.signs=[]/\Ck k.base vl=true)then none else some ⟨n,b,k,vl⟩) HF2.o;clear HF2 Hkok;cases td with
     |false=>
      go_wp2_with (first|((with_reducible refine Ad (op:=⟨none,.store 50 _ _,_,_,_,none⟩) rfl 50 _ _ rfl w2 2 [k.signs,k.base,k.name] ?_ ?_ ?_ ?_ ?_ ?_);rfl;rfl;(exact M5 HK5.o 2 3 aJ aJ);kernel_rfl;(simp[Value.oneCell']);intro w6 HS6;have HT6:=@Aa (w6.there w 0 6) (HS6.o ▸ ai HT5.o _ _ _);have HR6:=@Aa (w6.rangeAt w2 0 [(n:Int),b,k.signs,k.base,k.name,vl]) (HS6.o ▸ Cr [(n:Int),b] [a6,a6,a6] [vl] [k.signs,k.base,k.name] HR5.o rfl);have Hb6:=@Aa (Below w w w6) (HS6.o ▸ Ai _ (Nat.le_of_lt hzz) _ _ _ Hb5.o);have hz6:w2.heap.size<w6.heap.size:=dI;have z2:w6.cell? (w2,2)=k.signs:=dk;have z3:w6.cell? (w2,3)=k.base:=dl;clear HT5 HR5 HK5 HS6)|((with_reducible refine Ad (op:=⟨none,.store 122 _ _,_,_,_,none⟩) rfl 122 _ _ rfl w 0 [(n:Int),b,k.signs,k.base,k.name,vl] ?_ ?_ ?_ ?_ ?_ ?_);rfl;rfl;(first|exact ar HT6.o _|exact HT6.o);kernel_rfl;(simp[Value.oneCell']);intro w9 HS9)|((with_reducible refine wpList_load_mid (op:=⟨_,.load 122 _,_,_,_,none⟩) rfl 122 _ rfl w2 0 ?_ [(n:Int),b,k.signs,k.base,k.name,vl] _ HR6.o underlying122 ?_ ?_ ?_);rfl;rfl;kernel_rfl))
      have HZ:=@Aa (w9.rangeAt w 0 [(n:Int),b,k.signs,k.base,k.name,vl]) cq;refine aF (v:=.tuple #[.agg ([(n:Int),b,k.signs,k.base,k.name,vl]:List Value).toArray,.bool true]) ?_ rfl ?_
      ·exact jF
      exact En.yes (HF3.o.trans (if_neg aK)) rfl bJ
     |true=>
      rcases Decidable.em (st=82)with h82|h82
      ·have n82:((st.toNat:Int) != 82)=false:=Nz (c:=st) (d:=82) h82;rcases Decidable.em (k.signs=[])with hsg|hsg
       ·have hsg1:(k.signs != [])=false:=cU;have hsg2:k.signs.isEmpty=true:=cU;have hsg3:(!k.signs.isEmpty)=false:=cU;have hbl:=Qf2 Hkk.o.2.1;have Hst:=Aa (fun W=>Qde k.base vl W hbl aH)
        have Hst2:=Aa (show Jw st s=if Ck k.base vl=true then some ⟨n,b,k,vl⟩else none from by
         rw[HF3.o];by_cases hh:Ck k.base vl=true
         ·rw[if_neg (by simp[h82,hsg,hh]),if_pos hh]
         rw[if_pos (by simp[hh]),if_neg hh])
        generalize Ck k.base vl=sb at Hst Hst2;clear hsg h82 hbl;go_wp2_with ((with_reducible refine Ad (op:=⟨none,.store 50 _ _,_,_,_,none⟩) rfl 50 _ _ rfl w2 2 [k.signs,k.base,k.name] ?_ ?_ ?_ ?_ ?_ ?_);rfl;rfl;(exact M5 HK5.o 2 3 aJ aJ);kernel_rfl;(simp[Value.oneCell']);intro w6 HS6;have HT6:=@Aa (w6.there w 0 6) (HS6.o ▸ ai HT5.o _ _ _);have HR6:=@Aa (w6.rangeAt w2 0 [(n:Int),b,k.signs,k.base,k.name,vl]) (HS6.o ▸ Cr [(n:Int),b] [a6,a6,a6] [vl] [k.signs,k.base,k.name] HR5.o rfl);have Hb6:=@Aa (Below w w w6) (HS6.o ▸ Ai _ (Nat.le_of_lt hzz) _ _ _ Hb5.o);have hz6:w2.heap.size<w6.heap.size:=dI;have z2:w6.cell? (w2,2)=k.signs:=dk;have z3:w6.cell? (w2,3)=k.base:=dl;clear HT5 HR5 HK5 HS6)
        refine(Hst.o _).mono ?_;rintro e w7 ⟨rfl,hb7⟩;have HT7:=@Aa (w7.there w 0 6) (Aj HT6.o aH hb7);have HR7:=@Aa (w7.rangeAt w2 0 _) (Ah HR6.o hz6 hb7);have Hb7:=Aa (Hb6.o.trans (hb7.mono Hb6.o.size));clear hb7 z2 z3;cases sb with
        |true=>
         go_wp2_with (first|((with_reducible refine Ad (op:=⟨none,.store 122 _ _,_,_,_,none⟩) rfl 122 _ _ rfl w 0 [(n:Int),b,k.signs,k.base,k.name,vl] ?_ ?_ ?_ ?_ ?_ ?_);rfl;rfl;(first|exact ar HT7.o _|exact HT7.o);kernel_rfl;(simp[Value.oneCell']);intro w9 HS9)|((with_reducible refine wpList_load_mid (op:=⟨_,.load 122 _,_,_,_,none⟩) rfl 122 _ rfl w2 0 ?_ [(n:Int),b,k.signs,k.base,k.name,vl] _ HR7.o underlying122 ?_ ?_ ?_);rfl;rfl;kernel_rfl))
         have HZ:=@Aa (w9.rangeAt w 0 [(n:Int),b,k.signs,k.base,k.name,vl]) eY;refine aF (v:=.tuple #[.agg ([(n:Int),b,k.signs,k.base,k.name,vl]:List Value).toArray,.bool true]) ?_ rfl ?_
         ·exact jF
         exact En.yes (Hst2.o.trans (if_pos aK)) rfl dD
        |false=>
         go_wp2_with ((with_reducible refine Ad (op:=⟨none,.store 122 _ _,_,_,_,none⟩) rfl 122 _ _ rfl w 0 [.int .i64 0,a6,a6,a6,a6,a6] ?_ ?_ ?_ ?_ ?_ ?_);rfl;rfl;(first|exact ar HT7.o _|exact HT7.o);kernel_rfl;(simp[Value.oneCell']);intro w9 HS9)
         have HZ:=@Aa (w9.rangeAt w 0 [.int .i64 0,a6,a6,a6,a6,a6]) eY;refine aF (v:=.tuple #[.agg ([.int .i64 0,a6,a6,a6,a6,a6]:List Value).toArray,.bool false]) ?_ rfl ?_
         ·exact iC
         exact En.no (Hst2.o.trans (if_neg aJ)) rfl dD
       have hsg1:(k.signs != [])=true:=cU;have hsg2:k.signs.isEmpty=false:=cU;have hsg3:(!k.signs.isEmpty)=true:=cU;have Hw:=Aa (HF3.o.trans (if_pos ⟨rfl,fun h=>hsg h.2.1⟩));clear hsg h82;go_wp2_with (first|((with_reducible refine Ad (op:=⟨none,.store 50 _ _,_,_,_,none⟩) rfl 50 _ _ rfl w2 2 [k.signs,k.base,k.name] ?_ ?_ ?_ ?_ ?_ ?_);rfl;rfl;(exact M5 HK5.o 2 3 aJ aJ);kernel_rfl;(simp[Value.oneCell']);intro w6 HS6;have HT6:=@Aa (w6.there w 0 6) (HS6.o ▸ ai HT5.o _ _ _);have HR6:=@Aa (w6.rangeAt w2 0 [(n:Int),b,k.signs,k.base,k.name,vl]) (HS6.o ▸ Cr [(n:Int),b] [a6,a6,a6] [vl] [k.signs,k.base,k.name] HR5.o rfl);have Hb6:=@Aa (Below w w w6) (HS6.o ▸ Ai _ (Nat.le_of_lt hzz) _ _ _ Hb5.o);have hz6:w2.heap.size<w6.heap.size:=dI;have z2:w6.cell? (w2,2)=k.signs:=dk;have z3:w6.cell? (w2,3)=k.base:=dl;clear HT5 HR5 HK5 HS6)|((with_reducible refine Ad (op:=⟨none,.store 122 _ _,_,_,_,none⟩) rfl 122 _ _ rfl w 0 [.int .i64 0,a6,a6,a6,a6,a6] ?_ ?_ ?_ ?_ ?_ ?_);rfl;rfl;(first|exact ar HT6.o _|exact HT6.o);kernel_rfl;(simp[Value.oneCell']);intro w9 HS9))
       have HZ:=@Aa (w9.rangeAt w 0 [.int .i64 0,a6,a6,a6,a6,a6]) cq;refine aF (v:=.tuple #[.agg ([.int .i64 0,a6,a6,a6,a6,a6]:List Value).toArray,.bool false]) ?_ rfl ?_
       ·exact iC
       exact En.no Hw.o rfl bJ
      have n82:((st.toNat:Int) != 82)=true:=Rl (c:=st) (d:=82) h82;have Hw:=Aa (HF3.o.trans (if_pos ⟨rfl,fun h=>h82 h.1⟩));clear h82;go_wp2_with (first|((with_reducible refine Ad (op:=⟨none,.store 50 _ _,_,_,_,none⟩) rfl 50 _ _ rfl w2 2 [k.signs,k.base,k.name] ?_ ?_ ?_ ?_ ?_ ?_);rfl;rfl;(exact M5 HK5.o 2 3 aJ aJ);kernel_rfl;(simp[Value.oneCell']);intro w6 HS6;have HT6:=@Aa (w6.there w 0 6) (HS6.o ▸ ai HT5.o _ _ _);have HR6:=@Aa (w6.rangeAt w2 0 [(n:Int),b,k.signs,k.base,k.name,vl]) (HS6.o ▸ Cr [(n:Int),b] [a6,a6,a6] [vl] [k.signs,k.base,k.name] HR5.o rfl);have Hb6:=@Aa (Below w w w6) (HS6.o ▸ Ai _ (Nat.le_of_lt hzz) _ _ _ Hb5.o);have hz6:w2.heap.size<w6.heap.size:=dI;have z2:w6.cell? (w2,2)=k.signs:=dk;have z3:w6.cell? (w2,3)=k.base:=dl;clear HT5 HR5 HK5 HS6)|((with_reducible refine Ad (op:=⟨none,.store 122 _ _,_,_,_,none⟩) rfl 122 _ _ rfl w 0 [.int .i64 0,a6,a6,a6,a6,a6] ?_ ?_ ?_ ?_ ?_ ?_);rfl;rfl;(first|exact ar HT6.o _|exact HT6.o);kernel_rfl;(simp[Value.oneCell']);intro w9 HS9))
      have HZ:=@Aa (w9.rangeAt w 0 [.int .i64 0,a6,a6,a6,a6,a6]) cq;refine aF (v:=.tuple #[.agg ([.int .i64 0,a6,a6,a6,a6,a6]:List Value).toArray,.bool false]) ?_ rfl ?_
      ·exact iC
      exact En.no Hw.o rfl bJ
 have Hno:=Aa (HF.o.trans (Zo (vl:=vl) (td:=td) (st:=st) (ps:=ps) (by rw[if_neg Hst0.o];exact hlen)));have hl1:¬(ps.length:Int)=3:=aH;have hl2:((ps.length:Int) != 3)=true:=by rw[bne_iff_ne];exact hl1
 clear HF Hpl Hcells;go_wp2_with ((with_reducible refine Ad (op:=⟨none,.store 122 _ _,_,_,_,none⟩) rfl 122 _ _ rfl w 0 [.int .i64 0,a6,a6,a6,a6,a6] ?_ ?_ ?_ ?_ ?_ ?_);rfl;rfl;(first|exact ar HT.o _|exact HT.o);kernel_rfl;(simp[Value.oneCell']);intro w9 HS9)
 have HZ:=@Aa (w9.rangeAt w 0 [.int .i64 0,a6,a6,a6,a6,a6]) bu;refine aF (v:=.tuple #[.agg ([.int .i64 0,a6,a6,a6,a6,a6]:List Value).toArray,.bool false]) ?_ rfl ?_
 ·exact iC
 exact En.no Hno.o rfl aX
theorem Qa8(st:UInt8)(hst:Eo st)(s:List UInt8)(w:World)(hs:s.length<=4000000):
  Calls prog 118 #[s,.int .u8 (st.toNat:Int)] w (En (Jw st s) w):=by
 by_cases h:st=69
 ·exact Qkm st h s w hs
 exact Qks st h s w hs
def Fy(o:Option Ty)(w:World)(e:Ending)(w':World):Prop:=
 (match o with
  |some t=>∃x:PT,x.ty=t/\e=.returned (.tuple #[x.ptr,.bool true])/\w.heap.size<=x.blk/\So w' x/\∀k,x.fv.ownBlock=some k->w.heap.size<=k
  |none=>∃p:Option Addr,e=.returned (.tuple #[.pointer p,.bool false]))/\Below w w w'
theorem Fy.no{w w':World}{e:Ending}{o:Option Ty}(ho:o=none){p:Option Addr}(he:e=.returned (.tuple #[.pointer p,.bool false]))(hb:Below w w w'):Fy o w e w':=by
 rw[ho];exact⟨⟨p,he⟩,hb⟩
theorem Fy.yes{w w':World}{e:Ending}{o:Option Ty}{t:Ty}(ho:o=some t){b:Nat}{fv:Value}(he:e=.returned (.tuple #[b,.bool true]))(hwb:w.heap.size<=b)(ht:So w' ⟨t,b,fv⟩)(hf:∀k,fv.ownBlock=some k->w.heap.size<=k)(hb:Below w w w'):Fy o w e w':=by
 rw[ho];exact⟨⟨⟨t,b,fv⟩,rfl,he,hwb,ht,hf⟩,hb⟩
theorem Qav(c:UInt8):decide (c∈([82,85,69]:List UInt8))=decide (Eo c):=by
 rw[decide_eq_decide];unfold Eo;simp
theorem Qji(w:World):Calls prog 94 #[a6] w (Fy (Fi []) w):=by
 go_enter func94,ntmps94;go_wp2_with fail;go_ret2;exact Fy.no rfl rfl (Ap _ _)
theorem Qfy(c:UInt8)(r:List UInt8)(w:World)(hs:r.length<=3999999)(hc:¬Eo c):Calls prog 94 #[.string ⟨(c::r).toArray⟩] w (Fy (Fi (c::r)) w):=by
 have HF:=Aa (show Fi (c::r)=none by unfold Fi;simp only;rw[if_pos (.inl hc)])
 have Hc:=Aa (fun W=>(show Calls prog 116 #[.string ⟨#[82,85,69]⟩,.string ⟨#[c]⟩] W fun e w'=>e=.returned (.bool false)/\W=w' from by
  have:=P4 [82,85,69] c W;rw[Qav,aC hc]at this;exact this))
 clear hc;go_enter func94,ntmps94;go_wp2_with fail;refine(Hc.o _).mono ?_;rintro e w' ⟨rfl,rfl⟩;go_wp2_with fail;go_ret2;exact Fy.no HF.o rfl (Ap _ _)
theorem Qg9(c:UInt8)(r:List UInt8)(w:World)(hs:r.length<=3999999)(hc:Eo c)(h:(Dp 61 r).2.2=false\/Bh (Dp 61 r).1=false\/(Dp 61 r).2.1=[]):Calls prog 94 #[.string ⟨(c::r).toArray⟩] w (Fy (Fi (c::r)) w):=by
 have HF:=Aa (show Fi (c::r)=if (Dp 61 r).2.2=false\/Bh (Dp 61 r).1=false then none else(if c=82 then some ⟨c,(Dp 61 r).1,[]⟩else none)by
  unfold Fi;simp only;by_cases h1:(Dp 61 r).2.2=false\/Bh (Dp 61 r).1=false
  ·rw[if_pos (.inr h1),if_pos h1]
  have h2:(Dp 61 r).2.1=[]:=by
   rcases h with h|h|h
   ·exact absurd (.inl h) h1
   ·exact absurd (.inr h) h1
   exact h
  rw[if_neg (fun h3=>h3.elim (fun h3=>h3 hc) h1),if_neg h1,if_pos h2])
 have Hc:=Aa (fun W=>(show Calls prog 116 #[.string ⟨#[82,85,69]⟩,.string ⟨#[c]⟩] W fun e w'=>e=.returned (.bool true)/\W=w' from by
  have:=P4 [82,85,69] c W;rw[Qav,aD hc]at this;exact this))
 have Hl:=Aa (fun(f:(Dp 61 r).2.2=true/\(Dp 61 r).2.1=[])=>show Ye ⟨c,(Dp 61 r).1,[]⟩=c::r from by
  rcases Gk 61 r with⟨_,e⟩|⟨p,t,e1,_,e⟩
  ·rw[e]at f;cases f.1
  rw[e]at f ⊢;simp only at f;have:=f.2;subst this;rw[e1];rfl)
 have Hcut:=Aa (fun W=>Tw r 61 W aH);have hcl:=(M7 61 r).1;generalize Dp 61 r=q at *;obtain⟨nm,rest,told⟩:=q;simp only at hcl HF h Hl;have Hh:=Aa h;have Hc82:=Aa hc;clear hc h;go_enter func94,ntmps94;go_wp2_with fail;refine(Hc.o _).mono ?_;rintro e w' ⟨rfl,rfl⟩;go_wp2_with fail;refine(Hcut.o _).mono ?_;rintro e w1 ⟨rfl,k1,rfl⟩;unfold Qfs;cases told with
 |false=>
  go_wp2_with fail;go_ret2;exact Fy.no (HF.o.trans (if_pos aK)) rfl (below_drewN (Ap _ _) _)
 |true=>
  have Hname:=Aa (fun W=>Nf nm W aH);generalize hnb:Bh nm=nb at *;have Hnb:=Aa hnb;clear hnb;go_wp2_with fail;refine(Hname.o _).mono ?_;rintro e w2 ⟨rfl,hb2⟩;have Hb2:=@Aa (Below w w w2) ((below_drewN (Ap _ _) k1).trans (by simpa using hb2));clear hb2;cases nb with
  |false=>
   go_wp2_with fail;go_ret2;exact Fy.no (HF.o.trans (if_pos aK)) rfl Hb2.o
  |true=>
   obtain rfl:rest=[]:=by
    rcases Hh.o with h|h|h
    ·cases h
    ·cases h
    exact h
   have HF2:=Aa (HF.o.trans (if_neg aK));have Hl2:=Aa (Hl.o aK);have hz:=Hb2.o.size;rcases Decidable.em (c=82)with h82|h82
   ·have t1:((c.toNat:Int) == 82)=true:=Bm (d:=82) h82;have HF3:=Aa (HF2.o.trans (if_pos h82));clear h82;go_wp2_with fail;go_quiet (fail)
    go_wp2_with fail;go_ret2;refine Fy.yes HF3.o (b:=w2.heap.size) (fv:=.slice none 0 0) rfl Hb2.o.size ?_ (fun k hk=>by simp[Value.ownBlock]at hk) dP;refine⟨by simp,by first|exact Rj.new _ _ _|exact Rj.belowAt (Rj.new w2 _ _) aK (by first|exact below_drewN (Ap _ _) _|exact(Ap _ _).drew),by simp,by simp,by simp,?_,none,0,rfl,by simp,rfl,ag _,fun h=>absurd h aK⟩;rw[Hl2.o];simp
   have t1:((c.toNat:Int) == 82)=false:=Aq (d:=82) h82;have HF3:=Aa (HF2.o.trans (if_neg h82));clear h82;go_wp2_with fail;go_quiet (fail)
   go_wp2_with fail;go_ret2;exact Fy.no HF3.o rfl dP
def Qni(c:UInt8)(nm:List UInt8):Option (List Fd)->Option Ty
 |some r=>some ⟨c,nm,r⟩
 |none=>none
theorem Qdg{c:UInt8}{r nm rest:List UInt8}(hc:Eo c)(h:Dp 61 r=(nm,rest,true))(hn:Bh nm=true)(hr:rest≠[]):Fi (c::r)=Qni c nm (Gh c (Al 44 rest) []):=by
 unfold Fi;simp only[h];rw[if_neg (by simp[hc,hn]),if_neg hr];cases Gh c (Al 44 rest) []<;>rfl
theorem Qce{c:UInt8}{ps:List (List UInt8)}{acc:List Fd}{k:Nat}(hk:k<ps.length):Gh c (ps.drop k) acc=(match Jw c ps[k]with|none=>none|some f=>if acc.length=8\/H6 acc f=false then none else Gh c (ps.drop (k+1)) (acc++[f])):=by
 rw[List.drop_eq_getElem_cons hk,Gh];cases Jw c ps[k]<;>rfl
theorem Qhg{acc:List Fd}{f:Fd}(h:∀g∈acc,g.name≠f.name/\g.tag<f.tag):H6 acc f=true:=Nk.2 h
theorem Qed{acc:List Fd}{f x:Fd}(hx:x∈acc)(h:f.tag<=x.tag\/x.name=f.name):H6 acc f=false:=by
 cases hh:H6 acc f with
 |false=>rfl
 |true=>
  obtain⟨h1,h2⟩:=Nk.1 hh x hx;rcases h with h|h
  ·omega
  exact absurd h h1
theorem Jj(w:World)(a:Addr)(v:Value):w.grownBy (w.setCell a v) (some a.block):=
 ⟨rfl,rfl,rfl,by simp,fun k _ hk=>Go.heap_setCell_other _ _ _ _ (fun e=>hk (by rw[e]))⟩
theorem Ek{w:World}{base k n:Nat}{e:TypeId}{v:Value}{xs:List Value}(h:w.ownsRow base e k v n xs):∃A m c,v=.slice A m c:=by
 rcases h.2 with⟨rfl,_⟩|⟨g,cap,cur,rfl,_⟩
 ·exact⟨_,_,_,rfl⟩
 exact⟨_,_,_,rfl⟩
theorem Tryz.infoIf:(prog.info? 122).map (fun i=>(i.zero,i.size,i.bytes))=some (some (.agg #[.int .i64 0,a6,a6,a6,a6,a6]),6,88):=aL
theorem Qm9(fs:List Fd):∀y∈fs.flatMap Vp,y.oneCell'=true:=by
 intro y hy;obtain⟨f,_,hf⟩:=List.mem_flatMap.1 hy;simp[Vp]at hf;rcases hf with rfl|rfl|rfl|rfl|rfl|rfl<;>rfl
end
end Go.Proofs.YtbdibdghphdcdaaGreatDoor
