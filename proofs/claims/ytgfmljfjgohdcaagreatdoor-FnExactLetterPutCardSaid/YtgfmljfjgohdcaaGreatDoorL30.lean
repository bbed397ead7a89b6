/- Texts joined. Conditions: as each theorem names them. -/
import Derived.BigRegion
import Derived.BigQuiet
import Derived.Deep.QuietTactic
import Derived.Test.YtgfmljfjgohdcaaGreatDoorL28
set_option maxRecDepth 100000
set_option maxHeartbeats 32000000
set_option linter.unusedVariables false
set_option linter.unusedSimpArgs false
namespace Go.Proofs.YtgfmljfjgohdcaaGreatDoor
open Go.RowKit Go.Proofs.Tryz
theorem Tryz.xtraJ:Builder.Extra prog Tryz.lays156_ren where
 sizeBuilder:=aJ
 liesBuilder:=aJ
 t5:=underlying5
 a5:=isAgg5
 z5:=sizeOf5
 v5:=zeroValue5
 infoByte:=aJ
 cellsByte:=aJ
 sizeByte:=aJ
 neB5:=aI
theorem Vy(c:UInt8):∀ps:List (List UInt8),Lib.join ps [c]=As c ps
 |[]=>rfl
 |[p]=>by rw[Lib.join_one];rfl
 |p::q::r=>by
  have ih:=Vy c (q::r);rw[Cx c p aH,<-ih,Lib.join_cons p,Lib.join_cons q];simp[Lib.joinTail]
theorem Qeg(ps:List (List UInt8)):ps.length<=Ef ps:=by
 induction ps with
 |nil=>exact Am _
 |cons p ps ih=>rw[Fw,List.length_cons];omega
theorem Qkd(sep:List UInt8)(A:Option Addr)(c:Nat)(ps:List (List UInt8))(w:World)(hr:Cd w A ps.length (Bz ps))(hcp:ps.length<=c)(hl:Ef ps<=2000000)(hj:(Lib.join ps sep).length<=2000000):
  Calls prog 104 #[.slice A ps.length c,sep] w fun e w'=>e=.returned (.string ⟨(Lib.join ps sep).toArray⟩)/\Below w w w':=by
 by_cases h0:ps.length=0
 ·have e0:ps=[]:=List.length_eq_zero_iff.1 h0;subst e0;exact(Any.strings_Join_none Tryz.lays156 Tryz.xtraJ A c ⟨sep.toArray⟩ w).mono fun e w' ⟨he,hw⟩=>⟨he,hw ▸ Ar _ _⟩
 have hpl:=Qeg ps;obtain⟨hlc,_,hrow⟩:=hr;obtain⟨b,off,rfl,hb,hcl⟩:=hrow aF;have e1:(ps.map fun p=>(⟨p.toArray⟩:ByteArray)).map (·.data.toList)=ps:=by rw[List.map_map];exact List.map_id ps
 have h:=Any.strings_Join Tryz.lays156 Tryz.xtraJ b off c (ps.map fun p=>(⟨p.toArray⟩:ByteArray)) ⟨sep.toArray⟩ w (fun j x hx=>by
  rw[List.getElem?_map]at hx;obtain⟨p,hp,rfl⟩:=Option.map_eq_some_iff.1 hx;exact hcl j _ (by rw[Bz,List.getElem?_map,hp];rfl)) hb (by rw[List.length_map];omega) (by rw[List.length_map];exact hcp) (by rw[e1];show (Lib.join ps sep).length<=_;omega)
 rw[e1,List.length_map]at h;exact h
theorem Qkb(s:UInt8)(A:Option Addr)(c:Nat)(ps:List (List UInt8))(w:World)(hr:Cd w A ps.length (Bz ps))(hcp:ps.length<=c)(hl:Ef ps<=2000000):
  Calls prog 104 #[.slice A ps.length c,.string ⟨#[s]⟩] w fun e w'=>e=.returned (.string ⟨(As s ps).toArray⟩)/\Below w w w':=by
 have:=Qkd [s] A c ps w hr hcp hl (by rw[Vy,Cj];omega);rwa [Vy]at this
theorem Qkc(A:Option Addr)(c:Nat)(ps:List (List UInt8))(w:World)(hr:Cd w A ps.length (Bz ps))(hcp:ps.length<=c)(hl:Ef ps<=2000000):
  Calls prog 104 #[.slice A ps.length c,.string ⟨#[44]⟩] w fun e w'=>e=.returned (.string ⟨(As 44 ps).toArray⟩)/\Below w w w':=Qkb 44 A c ps w hr hcp hl
def Sl(x:Vl × Value):List Value:=[.int .u8 (x.1.what.toNat:Int),x.1.text,(x.1.tag:Int),x.2]
def Ko(v:Vl)(sl:Value):Value:=.agg #[.int .u8 (v.what.toNat:Int),v.text,(v.tag:Int),sl]
theorem Qec(x:Vl × Value):(Sl x).length=4:=rfl
def Av(xs:List (Vl × Value)):List Vl:=xs.map (·.1)
inductive E9(P:Nat->Prop)(w:World):Value->List Vl->Prop
 |mk {v:Value} {ks:List Vl} (A:Option Addr) (c:Nat) (xs:List (Vl × Value)) (hv:v=.slice A xs.length c) (hk:ks=Av xs) (hl:xs.length<=1000) (hr:Cd w A (xs.length*4) (xs.flatMap Sl))
   (hP:∀g o,0<xs.length->A=some ⟨g,o,none⟩->P g) (h:∀x∈xs,E9 P w x.2 x.1.kids):E9 P w v ks
theorem E9.kept{P Q:Nat->Prop}{w w':World}{v:Value}{ks:List Vl}(h:E9 P w v ks)(hc:∀b o u,P b->b<w.heap.size->w.cell? ⟨b,o,none⟩=some u->w'.cell? ⟨b,o,none⟩=some u)
  (hz:w.heap.size<=w'.heap.size) (hQ:∀b,P b->b<w.heap.size->Q b):E9 Q w' v ks:=by
 induction h with
 |mk A c xs hv hk hl hr hP h ih=>
  refine .mk A c xs hv hk hl ⟨hr.1,hr.2.1,fun hn=>?_⟩ (fun g o hn e=>?_) ih
  ·obtain⟨b,off,e,hlt,hcs⟩:=hr.2.2 hn;exact⟨b,off,e,by omega,fun j u hu=>hc b _ u (hP b off aF e) hlt (hcs j u hu)⟩
  obtain⟨b,off,e2,hlt,_⟩:=hr.2.2 aF;rw[e]at e2;injection e2 with e2;injection e2 with e2 _ _;subst e2;exact hQ g (hP g o hn e) hlt
theorem E9.after{P:Nat->Prop}{w w':World}{v:Value}{ks:List Vl}(h:E9 P w v ks)(hb:Below w w w'):E9 P w' v ks:=
 h.kept (fun b o u _ hl hu=>(hb.cell (p:=⟨b,o,none⟩) hl).trans hu) hb.size fun _ h _=>h
theorem E9.mono{P Q:Nat->Prop}{w:World}{v:Value}{ks:List Vl}(h:E9 P w v ks)(hQ:∀b,P b->b<w.heap.size->Q b):E9 Q w v ks:=h.kept (fun _ _ _ _ _ hu=>hu) (Am _) hQ
theorem E9.grown{P:Nat->Prop}{w w':World}{v:Value}{ks:List Vl}{row:Option Nat}(h:E9 P w v ks)(hg:w.grownBy w' row)(hne:∀b,P b->some b≠row):E9 P w' v ks:=
 h.kept (fun b o u hp _ hu=>hg.cell hu (hne b hp)) hg.size fun _ h _=>h
theorem E9.nil(P:Nat->Prop)(w:World):E9 P w (.slice none 0 0) []:=.mk none 0 [] rfl rfl aH ⟨rfl,ae _,fun h=>absurd h aH⟩ (fun _ _ h=>absurd h aH) aH
theorem E9.form{P:Nat->Prop}{w:World}{v:Value}{ks:List Vl}(h:E9 P w v ks):∃A c,v=.slice A ks.length c:=by
 obtain⟨A,c,xs,rfl,rfl,_,_,_,_⟩:=h;exact⟨A,c,by simp[Av]⟩
theorem E9.at_{w:World}{A:Option Addr}{xs:List (Vl × Value)}(hr:Cd w A (xs.length*4) (xs.flatMap Sl)){i:Nat}(hi:i<xs.length):
  ∃b off,A=some ⟨b,off,none⟩/\b<w.heap.size/\w.cell? ⟨b,off+i*4,none⟩=some (.int .u8 (xs[i].1.what.toNat:Int))/\w.cell? ⟨b,off+i*4+1,none⟩=some (.string ⟨xs[i].1.text.toArray⟩) /\
   w.cell? ⟨b,off+i*4+2,none⟩=some (.int .i64 (xs[i].1.tag:Int))/\w.cell? ⟨b,off+i*4+3,none⟩=some xs[i].2:=by
 obtain⟨b,off,e,hlt,hc⟩:=hr.elem Qec aI hi;refine⟨b,off,e,hlt,?_,?_,?_,?_⟩
 ·exact gL
 ·exact gx
 ·exact gG
 have:=hc 3 _ rfl;simpa [Nat.add_assoc]using this
section
attribute [local go_sem] Qls Qkr Qj4 Qig ByteArray.mk_append_mk
def Fv(w:World)(b:Nat)(p:Value)(t:List UInt8)(bad:Bool):Prop:=b<w.heap.size/\Qi w b/\w.cell? (b,0)=some p/\w.cell? (b,1)=t/\w.cell? (b,2)=some (.bool bad)
theorem Qi.live{w:World}{b:Nat}(h:Qi w b)(o:Nat):w.frozen? ⟨b,o,none⟩=false:=by
 obtain⟨cs,t,h⟩:=h;simp[World.frozen?,h]
theorem Fv.far{w w':World}{b:Nat}{p:Value}{t:List UInt8}{bad:Bool}(h:Fv w b p t bad){B:Nat}(hb:Below B w w')(hB:b<B):Fv w' b p t bad:=by
 obtain⟨h0,h1,h2,h3,h4⟩:=h;exact⟨a8 h0 hb.size,h1.belowAt hB hb,(hb.cell (p:=⟨b,0,none⟩) hB).trans h2,(hb.cell (p:=⟨b,1,none⟩) hB).trans h3,(hb.cell (p:=⟨b,2,none⟩) hB).trans h4⟩
theorem Fv.drew{w:World}{b:Nat}{p:Value}{t:List UInt8}{bad:Bool}(h:Fv w b p t bad)(k:Nat):Fv (w.drewN k) b p t bad:=h.far (below_drewN (Ar w.heap.size w) k) h.1
theorem Fv.setBad{w:World}{b:Nat}{p:Value}{t:List UInt8}{bad:Bool}(h:Fv w b p t bad)(x:Bool):Fv (w.setCell ⟨b,2,none⟩ (.bool x)) b p t x:=by
 obtain⟨h0,h1,h2,h3,h4⟩:=h;have hf:=h1.live 2;exact⟨by simpa using h0,h1.set _,by simp[go_sem,h2],by simp[go_sem,h3],by simp[go_sem,h4,hf]⟩
theorem Fv.setText{w:World}{b:Nat}{p:Value}{t:List UInt8}{bad:Bool}(h:Fv w b p t bad)(x:List UInt8):Fv (w.setCell ⟨b,1,none⟩ x) b p x bad:=by
 obtain⟨h0,h1,h2,h3,h4⟩:=h;have hf:=h1.live 1;exact⟨by simpa using h0,h1.set _,by simp[go_sem,h2],by simp[go_sem,h3,hf],by simp[go_sem,h4]⟩
theorem Qck(w:World)(a:Addr)(v:Value):w.grownBy (w.setCell a v) (some a.block):=
 ⟨rfl,rfl,rfl,by simp,fun k _ hk=>Go.heap_setCell_other _ _ _ _ (fun e=>hk (by rw[e]))⟩
theorem A0(w:World)(b o:Nat)(v:Value):w.grownBy (w.setCell ⟨b,o,none⟩ v) (some b):=Qck w ⟨b,o,none⟩ v
theorem Js(b:Nat):∀(vs:List Value) (o:Nat) (w:World),w.grownBy (w.setCells b o vs) (some b)
 |[],_,w=>World.grownBy.refl _ _
 |v::r,o,w=>(A0 w b o v).trans (Js b r (o+1) _)
theorem Ct{w w':World}(h:Below w w w')(row:Option Nat):w.grownBy w' row:=⟨h.os,h.tape,h.output,h.size,fun k hk _=>h.block k hk⟩
theorem Qaf(p s:List UInt8):Fa p s=if p.isPrefixOf s=true then some (s.drop p.length)else none:=by
 by_cases h:p.isPrefixOf s=true
 ·rw[if_pos h];rw[List.isPrefixOf_iff_prefix]at h;obtain⟨t,rfl⟩:=h;rw[Fl];simp
 rw[if_neg h];cases e:Fa p s with
 |none=>rfl
 |some r=>
  rw[Fl]at e;subst e;exact absurd aH h
theorem Qeu(c:UInt8)(s:List UInt8):Fa [c] s=Aq c s:=by
 unfold Fa;cases Aq c s<;>rfl
def cpV(s:List UInt8):Option (List UInt8)->Value
 |some r=>.tuple #[r,.bool true]
 |none=>.tuple #[s,.bool false]
theorem V8(s p:List UInt8)(w:World)(hs:s.length<=4000000):
  Calls prog 212 #[s,p] w fun e w'=>e=.returned (cpV s (Fa p s))/\∃k,w'=w.drewN k:=by
 have HW:=Aa (Qaf p s);have Hp:=Aa (fun W=>Tp s p W);by_cases h:p.isPrefixOf s=true
 ·have HW2:=Aa (HW.o.trans (if_pos h));have hl:p.length<=s.length:=by rw[List.isPrefixOf_iff_prefix]at h;exact h.length_le
  have h1:(p.length:Int)<=(s.length:Int):=aF;have h2:(0:Int)<=(p.length:Int):=aF;rw[h]at Hp;clear h HW;go_enter func212,ntmps212;go_wp2_with fail;refine(Hp.o _).mono ?_;rintro e w1 ⟨rfl,rfl⟩;go_wp2_with fail;go_ret2;exact⟨by rw[HW2.o];rfl,0,rfl⟩
 have HW2:=Aa (HW.o.trans (if_neg h));have h':p.isPrefixOf s=false:=Bool.eq_false_iff.2 h;rw[h']at Hp;clear h h' HW;go_enter func212,ntmps212;go_wp2_with fail;refine(Hp.o _).mono ?_;rintro e w1 ⟨rfl,rfl⟩;go_wp2_with fail;go_ret2;exact⟨by rw[HW2.o];rfl,0,rfl⟩
theorem Xm(s p:List UInt8)(w:World)(hs:s.length<=4000000):
  Calls prog 154 #[s,p] w fun e w'=>e=.returned (cpV s (Fa p s))/\∃k,w'=w.drewN k:=by
 have Hp:=Aa (fun W=>V8 s p W hs);cases hw:Fa p s with
 |none=>
  rw[hw]at Hp;clear hw;go_enter func154,ntmps154;go_wp2_with fail;refine(Hp.o _).mono ?_;rintro e w1 ⟨rfl,k,rfl⟩;unfold cpV;go_wp2_with fail;go_ret2;exact⟨rfl,k,rfl⟩
 |some r=>
  rw[hw]at Hp;clear hw;go_enter func154,ntmps154;go_wp2_with fail;refine(Hp.o _).mono ?_;rintro e w1 ⟨rfl,k,rfl⟩;unfold cpV;go_wp2_with fail;go_ret2;exact⟨rfl,k,rfl⟩
def Dc(w:World)(b:Nat)(p:Value)(t:List UInt8)(bad:Bool)(w':World):Prop:=Fv w' b p t bad/\w.grownBy w' (some b)
def Aw(lead t:List UInt8)(bad:Bool):Option (List UInt8):=if bad then none else Fa lead t
theorem Jc(b:Nat)(p:Value)(t lead:List UInt8)(bad:Bool)(w:World)(h:Fv w b p t bad)(hl:t.length<=4000000):
  Calls prog 97 #[b,lead] w fun e w'=>
   e=.returned (.bool (Aw lead t bad).isSome)/\Dc w b p ((Aw lead t bad).getD t) bad w':=by
 have Hp:=Aa (fun W=>Xm t lead W hl);have HT:=@Aa (Aw lead t bad=if bad then none else Fa lead t) rfl;have HS:=Aa h;obtain⟨h0,h1,h2,h3,h4⟩:=h;have hfz:=h1.live 1;clear h1;cases hw:Fa lead t with
 |none=>
  have HT2:=Aa (show Aw lead t bad=none by rw[HT.o,hw];cases bad<;>rfl);rw[hw]at Hp;clear hw HT;go_enter func97,ntmps97;go_wp2_with fail;refine(Hp.o _).mono ?_;rintro e w1 ⟨rfl,k,rfl⟩;unfold cpV;go_wp2_with fail;go_ret;exact⟨by rw[HT2.o];rfl,by rw[HT2.o];exact⟨HS.o.drew k,Ct (below_drewN (Ar _ _) k) _⟩⟩
 |some r=>
  rw[hw]at Hp;cases bad with
  |true=>
   have HT2:=@Aa (Aw lead t true=none) rfl;clear hw HT;go_enter func97,ntmps97;go_wp2_with fail;refine(Hp.o _).mono ?_;rintro e w1 ⟨rfl,k,rfl⟩;unfold cpV;go_wp2_with fail;go_ret;exact⟨by rw[HT2.o];rfl,by rw[HT2.o];exact⟨HS.o.drew k,Ct (below_drewN (Ar _ _) k) _⟩⟩
  |false=>
   have HT2:=@Aa (Aw lead t false=some r) (HT.o.trans hw);clear hw HT;go_enter func97,ntmps97;go_wp2_with fail;refine(Hp.o _).mono ?_;rintro e w1 ⟨rfl,k,rfl⟩;unfold cpV;go_wp2_with fail;go_ret;exact⟨by rw[HT2.o];rfl,by rw[HT2.o];exact⟨(HS.o.drew k).setText r,(Ct (below_drewN (Ar _ _) k) _).trans (A0 _ _ _ _)⟩⟩
theorem Da(b:Nat)(p:Value)(t lead:List UInt8)(bad:Bool)(w:World)(h:Fv w b p t bad)(hl:t.length<=4000000):
  Calls prog 96 #[b,lead] w fun e w'=>
   e=.returned (.tuple #[])/\Dc w b p ((Aw lead t bad).getD t) (Aw lead t bad).isNone w':=by
 have Hp:=Aa (Jc b p t lead bad w h hl);have HB:=Aa (show ∀r,Aw lead t bad=some r->bad=false by intro r h;cases bad;rfl;cases h);generalize Aw lead t bad=o at Hp HB ⊢;cases o with
 |some r=>
  obtain rfl:=HB.o r rfl;go_enter func96,ntmps96;go_wp2_with fail;refine Hp.o.mono ?_;rintro e w1 ⟨rfl,hs⟩;have HS:=Aa hs;clear hs;go_wp2_with fail;go_end0
  exact⟨rfl,HS.o⟩
 |none=>
  go_enter func96,ntmps96;go_wp2_with fail;refine Hp.o.mono ?_;rintro e w1 ⟨rfl,hs⟩;have HS:=Aa hs;obtain⟨⟨h0,h1,_,_,h4⟩,_⟩:=hs;have hfz:=h1.live 2;clear h1;go_wp2_with fail;go_end0
  exact⟨rfl,HS.o.1.setBad true,HS.o.2.trans (A0 _ _ _ _)⟩
inductive Bd:Vl->Prop
 |mk {w:UInt8} {tx:List UInt8} {tg:Nat} {ks:List Vl} (h1:tg<=1000000000) (h2:Ef (ks.map Bi)<=1000000) (h3:tx.length<=1000000) (h:∀x∈ks,Bd x):Bd (.mk w tx tg ks)
theorem P6{w:World}{base k n:Nat}{e:TypeId}{v:Value}{xs:List Value}(h:w.ownsRow base e k v n xs):∃A m c,v=.slice A m c:=by
 rcases h.2 with⟨rfl,_⟩|⟨g,cap,cur,rfl,_⟩
 ·exact⟨_,_,_,rfl⟩
 exact⟨_,_,_,rfl⟩
theorem Qio{w:World}{base n m c:Nat}{e:TypeId}{A:Option Addr}{xs:List Value}(h:w.ownsRow base e 1 (.slice A m c) n xs):m=n/\n<=c\/n=0/\m=0:=by
 rcases h.2 with⟨e,h0⟩|⟨g,cap,cur,e,_,_,hnc,_⟩
 ·injection e with _ e1 e2;exact .inr ⟨h0,e1⟩
 injection e with _ e1 e2;subst e1 e2;exact .inl ⟨rfl,hnc⟩
theorem Qj2(w:UInt8)(tx:List UInt8)(tg:Nat)(ps:List (List UInt8)):H9 w tx tg ps=if w=116 then 39::(tx++[39])
  else if w=91 then 91::(As 44 ps++[93])else if w=63 then(if ps.length=0 then[45]else 43::As 44 ps)else if w=61 then Au tg++61::As 44 ps else if w=82 then 123::(As 44 ps++[125])
  else if w=85 then 60::(Au tg++61::(As 44 ps++[62]))else if w=69 then 35::Au tg else tx:=by
 unfold H9;cases ps<;>rfl
theorem Qb8(P:Nat->Prop)(v:Vl)(sl:Value)(w:World)(h:E9 P w sl v.kids)(hb:Bd v)
  (ih:∀x∈v.kids,∀s W,E9 P W s x.kids->Calls prog 52 #[Ko x s] W fun e w'=>e=.returned (.string ⟨(Bi x).toArray⟩)/\Below W W w'):
  Calls prog 52 #[Ko v sl] w fun e w'=>e=.returned (.string ⟨(Bi v).toArray⟩)/\Below w w w':=by
 have Ih:=Aa ih;obtain⟨wh,tx,tg,ks⟩:=v;obtain⟨h1,h2,h3,_⟩:=hb;have HF:=Aa (Rt wh tx tg ks);simp only[Vl.kids]at h;have Ih:=@Aa (∀x∈ks,∀s W,E9 P W s x.kids->_) ih;obtain⟨A,c,xs,rfl,rfl,hl,hr,hP,hk⟩:=h;have Hr:=Aa hr;have Hk:=Aa hk;have hxl:(Av xs).length=xs.length:=eu;have Hd:=Aa (fun W=>Ns tg tg W (Am _) h1);clear hr hk ih hP;unfold Ko;simp only[Vl.what,Vl.text,Vl.tag];go_enter func52,ntmps52;go_wp2_with fail;obtain⟨w1,hw1⟩:∃w1,w1=w.alloc (.cells #[.int .u8 (wh.toNat:Int),tx,(tg:Int),.slice A xs.length c] 75):=⟨_,rfl⟩
 rw[<-hw1];have c0:w1.cell? (w,0)=some (.int .u8 (wh.toNat:Int)):=cB;have c1:w1.cell? (w,1)=tx:=cB;have c2:w1.cell? (w,2)=(tg:Int):=cB;have c3:w1.cell? (w,3)=some (.slice A xs.length c):=cB;have hz1:w1.heap.size=w.heap.size+1:=cB;have Hb1:=Aa (show Below w w w1 by rw[hw1];exact(Ar _ _).alloc (Am _) _);have Hr1:=Aa (Hr.o.below Hb1.o);have Hk1:=Aa (fun x hx=>(Hk.o x hx).after Hb1.o);have hB:w.heap.size<w1.heap.size:=aF;generalize hB0:w.heap.size=B at *;have HB0:=Aa hB0;clear hB0;clear hw1 Hr Hk;go_loopw [10,3] (fun i u wr=>∃(m:Nat) (A3:Option Addr) (n3 q3:Nat),i=.int .i64 m/\u=.slice A3 n3 q3/\m<=xs.length/\Hid (wr.ownsRow w1 9 1 (.slice A3 n3 q3) m (Bz ((xs.take m).map fun x=>Bi x.1)))/\Hid (Below w1 w1 wr)) (fun i _ _=>xs.length - (intOf i).toNat)
 case atStart=>exact⟨0,none,0,0,rfl,rfl,ae _,World.ownsRow_nil _ _ _ _,Ar _ _⟩
 case round=>
  obtain⟨m,A3,n3,q3,rfl,rfl,hm,Hown,Hbr⟩:=hrel;have m1:(0:Int)<=(m:Int):=aF;by_cases hlt:m<xs.length
  ·have m2:(m:Int)<(xs.length:Int):=aF;obtain⟨b,off,rfl,hb,d0,d1,d2,d3⟩:=E9.at_ (Hr1.o.below Hbr.o) hlt;have hkx:=(Hk1.o _ (ac hlt)).after Hbr.o;have Hkx:=Aa hkx;have Hmx:=@Aa (xs[m].1∈Av xs) (am (ac hlt));have Hts:=Aa (By xs m hlt);have hsz:w1.heap.size<=wr.heap.size:=Hbr.o.size;have hbn:¬(b=wr.heap.size):=aF;clear hkx;generalize xs[m]=x at *;obtain⟨y,ys⟩:=x;obtain⟨A7,c7,e7⟩:=Hkx.o.form;simp only at e7 d0 d1 d2 d3 Hkx Hmx;subst e7;have Hx:=Aa (fun W=>Ih.o y Hmx.o (.slice A7 y.kids.length c7) W);unfold Ko at Hx;go_wp2_with fail;refine(Hx.o _ (Hkx.o.after ((Ar _ _).alloc (Am _) _))).mono ?_;rintro e w3 ⟨rfl,hb3⟩;have Hb3:=Aa (((Ar _ _).alloc (Am _) _).trans (hb3.mono aH));have Ho3:=Aa (Co Hown.o Hb3.o);have hs3:w1.heap.size<=w3.heap.size:=aa hsz Hb3.o.size;clear hb3;go_wp2_with (at_builtin;refine Jl _ rfl _ _ 64 rfl w1 9 a6 16 underlying64 Ta rfl w3 (.string ⟨(Bi y).toArray⟩) rfl rfl (.slice A3 n3 q3) m (Bz ((xs.take m).map fun x=>Bi x.1)) rfl rfl Ho3.o aY aF hs3 ?_;intro v' w5 hown5 hb5;obtain⟨A5,n5,c5,rfl⟩:=P6 hown5;have Ho:=Aa hown5;have Hb5:=Aa hb5;clear hown5 hb5)
   go_roundw
   case rel=>exact⟨m+1,A5,n5,c5,by go_num,rfl,by omega,(by rw[Hts.o,ax,Xp];exact Ho.o),(Hbr.o.trans (Hb3.o.mono hsz)).trans Hb5.o⟩
   case measure=>simp[intOf];omega
  ·obtain rfl:m=xs.length:=aF;have hown6:=Hown.o;rw[List.take_length]at hown6;have hrow:=Cd.own hown6;obtain⟨A6,c6,e6,hr6⟩:=hrow;have hcap:=Qio hown6;injection e6 with e7 e8 e9;subst e7 e8 e9;have Hps:=Aa (show (xs.map fun x=>Bi x.1)=(Av xs).map Bi by simp[Av]);have hpl:(xs.map fun x=>Bi x.1).length=xs.length:=aH
   have Hj:=Aa (fun W (hW:Cd W A3 xs.length (Bz (xs.map fun x=>Bi x.1)))=>(by
    have:=Qkc A3 q3 (xs.map fun x=>Bi x.1) W (by rw[hpl];exact hW) (by rw[hpl];omega) (by rw[Hps.o];omega);rw[hpl]at this;exact this:Calls prog 104 #[.slice A3 xs.length q3,.string ⟨#[44]⟩] W fun e w'=>e=.returned (.string ⟨(As 44 (xs.map fun x=>Bi x.1)).toArray⟩)/\Below W W w'))
   have HF:=Aa (show Bi (.mk wh tx tg (Av xs))=_ by rw[HF.o,<-Hps.o,Qj2,hpl]);have hjl:(As 44 (xs.map fun x=>Bi x.1)).length<=1000000:=by rw[Cj,Hps.o];omega
   have hdl:(Au tg).length<=11:=Di 10 tg (by have e:10 ^ (10+1)=100000000000:=rfl;omega);generalize (xs.map fun x=>Bi x.1)=ps at *;generalize As 44 ps=jt at *;have Hr6:=Aa hr6;have Hb6:=Aa (Hb1.o.trans (Hbr.o.mono aF));clear hown6 hr6 hcap Hps hpl Hown Ih Hk1 Hr1;go_wp2_with fail;refine(Hj.o _ Hr6.o).mono ?_;rintro e w4 ⟨rfl,hb4⟩;have Hb4:=Aa (Hb6.o.trans (hb4.mono cZ));have hc4:=fun j=>(hb4.cell (p:=⟨B,j,none⟩) (show B<wr.heap.size by have:=Hbr.o.size;omega)).trans (Hbr.o.cell (p:=⟨B,j,none⟩) hB);have g0:=(hc4 0).trans c0;have g1:=(hc4 1).trans c1;have g2:=(hc4 2).trans c2;have g3:=(hc4 3).trans c3;clear hc4 hb4 Hj Hr6 Hb6 Hbr Hb1;by_cases a116:wh=116
   ·have HF:=Aa (HF.o.trans (if_pos a116));have t116:((wh.toNat:Int) == 116)=true:=Ba (d:=116) a116;clear a116;go_wp2_with fail;exact iV
   have HF:=Aa (HF.o.trans (if_neg a116));have t116:((wh.toNat:Int) == 116)=false:=Ao (d:=116) a116;clear a116;by_cases a91:wh=91
   ·have HF:=Aa (HF.o.trans (if_pos a91));have t91:((wh.toNat:Int) == 91)=true:=Ba (d:=91) a91;clear a91;go_wp2_with fail;exact iV
   have HF:=Aa (HF.o.trans (if_neg a91));have t91:((wh.toNat:Int) == 91)=false:=Ao (d:=91) a91;clear a91;by_cases a63:wh=63
   ·have HF:=Aa (HF.o.trans (if_pos a63));have t63:((wh.toNat:Int) == 63)=true:=Ba (d:=63) a63;clear a63;by_cases h0:xs.length=0
    ·have e0:((xs.length:Int) == 0)=true:=by simp[h0]
     have HF:=Aa (HF.o.trans (if_pos h0));clear h0;go_wp2_with fail;exact iW
    have e0:((xs.length:Int) == 0)=false:=bY;have HF:=Aa (HF.o.trans (if_neg h0));clear h0;go_wp2_with fail;exact iW
   have HF:=Aa (HF.o.trans (if_neg a63));have t63:((wh.toNat:Int) == 63)=false:=Ao (d:=63) a63;clear a63;by_cases a61:wh=61
   ·have HF:=Aa (HF.o.trans (if_pos a61));have t61:((wh.toNat:Int) == 61)=true:=Ba (d:=61) a61;clear a61;go_wp2_with fail;refine(Hd.o _).mono ?_;rintro e w5 ⟨rfl,hb5⟩;have Hb4:=Aa (Hb4.o.trans (hb5.mono dD));clear hb5;go_wp2_with fail;exact iV
   have HF:=Aa (HF.o.trans (if_neg a61));have t61:((wh.toNat:Int) == 61)=false:=Ao (d:=61) a61;clear a61;by_cases a82:wh=82
   ·have HF:=Aa (HF.o.trans (if_pos a82));have t82:((wh.toNat:Int) == 82)=true:=Ba (d:=82) a82;clear a82;go_wp2_with fail;exact iV
   have HF:=Aa (HF.o.trans (if_neg a82));have t82:((wh.toNat:Int) == 82)=false:=Ao (d:=82) a82;clear a82;by_cases a85:wh=85
   ·have HF:=Aa (HF.o.trans (if_pos a85));have t85:((wh.toNat:Int) == 85)=true:=Ba (d:=85) a85;clear a85;go_wp2_with fail;refine(Hd.o _).mono ?_;rintro e w5 ⟨rfl,hb5⟩;have Hb4:=Aa (Hb4.o.trans (hb5.mono dD));clear hb5;go_wp2_with fail;exact iV
   have HF:=Aa (HF.o.trans (if_neg a85));have t85:((wh.toNat:Int) == 85)=false:=Ao (d:=85) a85;clear a85;by_cases a69:wh=69
   ·have HF:=Aa (HF.o.trans (if_pos a69));have t69:((wh.toNat:Int) == 69)=true:=Ba (d:=69) a69;clear a69;go_wp2_with fail;refine(Hd.o _).mono ?_;rintro e w5 ⟨rfl,hb5⟩;have Hb4:=Aa (Hb4.o.trans (hb5.mono dD));clear hb5;go_wp2_with fail;exact iV
   have HF:=Aa (HF.o.trans (if_neg a69));have t69:((wh.toNat:Int) == 69)=false:=Ao (d:=69) a69;clear a69;go_wp2_with fail;exact iW
theorem Qch(P:Nat->Prop){v:Vl}(hb:Bd v):∀(sl:Value) (w:World),E9 P w sl v.kids ->
  Calls prog 52 #[Ko v sl] w fun e w'=>e=.returned (.string ⟨(Bi v).toArray⟩)/\Below w w w':=by
 induction hb with
 |mk h1 h2 h3 h ih=>exact fun sl w hk=>Qb8 P _ sl w hk (.mk h1 h2 h3 h) fun x hx s W hs=>ih x hx s W hs
theorem Bld.below{B b:Nat}{l:List UInt8}{w w':World}(h:Bld B b l w)(hb:Below w w w'):Bld B b l w':=by
 have key:∀p,Qbf B b p (Ea l) w->Qbf B b p (Ea l) w':=by
  rintro p ⟨hB,v,hbk,hown,hne⟩;have hlt:b<w.heap.size:=by
   rcases aE b w.heap.size with h'|h'
   ·exact h'
   simp[Array.getElem?_eq_none h']at hbk
  exact⟨hB,v,(hb.block b hlt).trans hbk,Co hown hb,hne⟩
 rcases h with h|h
 ·exact .inl (key _ h)
 exact .inr (key _ h)
def IbC(v:Vl):Prop:=∀(P:Nat->Prop) (sl:Value) (w:World),E9 P w sl v.kids ->
 Calls prog 145 #[Ko v sl] w fun e w'=>e=.returned (.string ⟨(Dp v).toArray⟩)/\Below w w w'
theorem Qlc(m:Nat)(hm:m<=999999):IbC (.mk 110 (Au m) 0 []):=by
 intro P sl w h;obtain⟨A,c,rfl⟩:=h.form;have hd:Cg (Au m)=some m:=Br.2 ⟨by omega,rfl⟩;have hl:=Di 6 m eX;have HL:=Aa (fun W=>(Qp (m:=999999) hd) ▸ Ez (Au m) 999999 W aF aI);have HN:=Aa (fun W=>Gn m W hm);rw[Qhf hm];unfold Ko;simp only[Vl.what,Vl.text,Vl.tag,Vl.kids,List.length_nil];clear hd h;generalize Au m=tx at *;generalize decide (m<=999999)=ok at *;go_enter func145,ntmps145;go_wp2_with fail;refine(HL.o _).mono ?_;rintro e w1 ⟨rfl,rfl⟩;go_wp2_with fail;refine(HN.o _).mono ?_;rintro e w2 ⟨rfl,hb2⟩;have Hb2:=Aa (((Ar _ _).alloc (Am _) _).trans (hb2.mono aH));clear hb2;go_wp2_with fail;exact iS
theorem Qk2(tx:List UInt8)(ht:tx.length<=999999):IbC (.mk 116 tx 0 []):=by
 intro P sl w h;obtain⟨A,c,rfl⟩:=h.form;have HN:=Aa (fun W=>Yr tx W ht);rw[Qef];unfold Ko;simp only[Vl.what,Vl.text,Vl.tag,Vl.kids,List.length_nil];clear h;go_enter func145,ntmps145;go_wp2_with fail;refine(HN.o _).mono ?_;rintro e w2 ⟨rfl,hb2⟩;have Hb2:=Aa (((Ar _ _).alloc (Am _) _).trans (hb2.mono aH));clear hb2;go_wp2_with fail;exact iS
theorem Qk0(x:Bool):IbC (.mk 102 (if x then Dy else Kh) 0 []):=by
 intro P sl w h;obtain⟨A,c,rfl⟩:=h.form;rw[Qhx];unfold Ko;simp only[Vl.what,Vl.text,Vl.tag,Vl.kids,List.length_nil];cases x<;>
 ·simp only[Dy,Kh,ak,if_true,if_false];go_enter func145,ntmps145;go_wp2_with fail;exact iH
theorem Qle(g:Nat)(hg:g<=999999):IbC (.mk 69 [] g []):=by
 intro P sl w h;obtain⟨A,c,rfl⟩:=h.form;have HN:=Aa (fun W=>Gn g W hg);rw[Zx];unfold Ko;simp only[Vl.what,Vl.text,Vl.tag,Vl.kids,List.length_nil];clear h;go_enter func145,ntmps145;go_wp2_with fail;refine(HN.o _).mono ?_;rintro e w2 ⟨rfl,hb2⟩;have Hb2:=Aa (((Ar _ _).alloc (Am _) _).trans (hb2.mono aH));clear hb2;go_wp2_with fail;exact iS
theorem Qja:IbC (.mk 63 [] 0 []):=by
 intro P sl w h;obtain⟨A,c,rfl⟩:=h.form;rw[Qac];unfold Ko;simp only[Vl.what,Vl.text,Vl.tag,Vl.kids,List.length_nil];go_enter func145,ntmps145;go_wp2_with fail;exact iH
theorem E9.sole{P:Nat->Prop}{w:World}{sl:Value}{x:Vl}(h:E9 P w sl [x]):∃b off c A7 c7,sl=.slice (some ⟨b,off,none⟩) 1 c/\b<w.heap.size/\w.cell? ⟨b,off,none⟩=some (.int .u8 (x.what.toNat:Int))/\w.cell? ⟨b,off+1,none⟩=x.text /\
  w.cell? ⟨b,off+2,none⟩=(x.tag:Int)/\w.cell? ⟨b,off+3,none⟩=some (.slice A7 x.kids.length c7)/\E9 P w (.slice A7 x.kids.length c7) x.kids:=by
 obtain⟨A,c,xs,rfl,hks,hlx,hr,hP,hk⟩:=h;obtain⟨⟨y,ys⟩,rfl⟩:∃a,xs=[a]:=by
  cases xs with
  |nil=>simp[Av]at hks
  |cons a l=>cases l with
   |nil=>exact⟨a,rfl⟩
   |cons b l=>simp[Av]at hks
 obtain rfl:x=y:=by simpa [Av]using hks
 have hkx:=hk (x,ys) aH;obtain⟨A7,c7,e7⟩:=hkx.form;simp only at e7;subst e7;obtain⟨b,off,rfl,hb,d0,d1,d2,d3⟩:=E9.at_ hr (show 0<1 by decide);simp only[List.getElem_cons_zero,Nat.zero_mul,Nat.add_zero]at d0 d1 d2 d3;exact⟨b,off,c,A7,c7,rfl,hb,d0,d1,d2,d3,hkx⟩
theorem Qjd(x:Vl)(ih:IbC x)(hl:(Dp x).length<=999999):IbC (.mk 63 [] 0 [x]):=by
 intro P sl w h;obtain⟨b,off,c,A7,c7,rfl,hb,d0,d1,d2,d3,hkx⟩:=h.sole;have Hkx:=Aa hkx;have Ih:=Aa (fun W h=>ih P (.slice A7 x.kids.length c7) W h);have hbn:¬(b=w.heap.size):=aF;rw[Rb];generalize Dp x=px at *;unfold Ko at Ih ⊢;clear hkx ih h;simp only[Vl.what,Vl.text,Vl.tag,Vl.kids,List.length_singleton];go_enter func145,ntmps145;go_wp2_with fail;refine(Ih.o _ (Hkx.o.after ((Ar _ _).alloc (Am _) _))).mono ?_;rintro e w1 ⟨rfl,hb1⟩;have Hb1:=Aa (((Ar w.heap.size w).alloc (Am _) _).trans (hb1.mono aH));clear hb1;go_wp2_with fail;exact iF
theorem Qhv(wh:UInt8)(hw:wh=85\/wh=61)(g:Nat)(hg:g<=999999)(x:Vl)(ih:IbC x)(hl:(Dp x).length<=999999):IbC (.mk wh [] g [x]):=by
 intro P sl w h;obtain⟨b,off,c,A7,c7,rfl,hb,d0,d1,d2,d3,hkx⟩:=h.sole;have HF:=Aa (show Dp (.mk wh [] g [x])=Dg g++Re (Dp x)by rcases hw with rfl|rfl<;>simp[Dp,byW,Xu]);obtain⟨w1,hw1⟩:∃w1,w1=(w.alloc (.cells #[.int .u8 (wh.toNat:Int),a6,(g:Int),.slice (some ⟨b,off,none⟩) 1 c] 75)):=⟨_,rfl⟩
 have hb1:Below w w w1:=f5;have hq:=Cb g;have hq2:=Zu (Dp x);have HN:=Aa (fun W (_:Below w1 w1 W)=>Gn g W hg);have HS:=Aa (fun W (_:Below w1 w1 W)=>(show Calls prog 202 #[.string ⟨(Dp x).toArray⟩] W fun e w'=>e=.returned (.string ⟨(Re (Dp x)).toArray⟩)/\Below W W w' from Yr (Dp x) W hl));have Ih:=Aa (fun W (hW:Below w1 w1 W)=>ih P (.slice A7 x.kids.length c7) W ((hkx.after hb1).after hW));have x2:w1.cell? (w,2)=(g:Int):=cB;have x3:w1.cell? (w,3)=some (.slice (some ⟨b,off,none⟩) 1 c):=cB;have l1:w.heap.size<w1.heap.size:=cB;have l2:b<w1.heap.size:=aF;replace d0:=(hb1.cell (p:=⟨b,off,none⟩) hb).trans d0
 replace d1:=(hb1.cell (p:=⟨b,off+1,none⟩) hb).trans d1
 replace d2:=(hb1.cell (p:=⟨b,off+2,none⟩) hb).trans d2
 replace d3:=(hb1.cell (p:=⟨b,off+3,none⟩) hb).trans d3
 have Hb1:=Aa hb1;have Hw1:=Aa hw1;have q1:¬(9223372036854775807<(Dg g).length+(Re (Dp x)).length):=aF;rw[HF.o];generalize Re (Dp x)=sx at *;generalize Dp x=px at *;unfold Ko at Ih ⊢;clear hkx ih h hw1 hq hq2 hb1;simp only[Vl.what,Vl.text,Vl.tag,Vl.kids,List.length_singleton];rcases hw with rfl|rfl<;>
 ·go_enter func145,ntmps145;go_wp2_with fail;generalize hwg:World.alloc w _=wg;obtain rfl:w1=wg:=Hw1.o.trans hwg;clear hwg;refine rgB ?_;iterate 2 refine sq ?_
  refine sqC HN.o ?_;iterate 4 refine sq ?_
  refine sqC Ih.o ?_;refine sqC HS.o ?_;iterate 2 refine sq ?_
  refine dnB fun W Hb=>?_;have Hb2:=Aa (Hb1.o.trans (Hb.o.mono Hb1.o.size));clear Hb;go_wp2_with fail;exact iS
theorem Qjy{p:Prop}(h:p:=by
  have m2:(m:Int)<(xs.length:Int):=aF;obtain⟨b,off,rfl,hb,d0,d1,d2,d3⟩:=E9.at_ (Hr.o.below Hbr.o) hlt;have hkx:=(Hk.o _ (ac hlt)).after Hbr.o;have Hkx:=Aa hkx;have Hmx:=@Aa (xs[m].1∈Av xs) (am (ac hlt));have hst:=Hacc.o;rw[List.drop_eq_getElem_cons hlt,aw,List.flatten_cons,<-List.append_assoc]at hst;have hal:=congrArg List.length hst;simp only[af]at hal;have Hst:=Aa hst;have hsz:wA.heap.size<=wr.heap.size:=Hbr.o.size;have hbn:¬(b=wr.heap.size):=aF;clear hkx hst;generalize xs[m]=x at *;obtain⟨y,ys⟩:=x;obtain⟨A7,c7,e7⟩:=Hkx.o.form;simp only at e7 d0 d1 d2 d3 Hkx Hmx Hst hal;subst e7;have Hx:=Aa (fun W h=>Ih.o y Hmx.o P (.slice A7 y.kids.length c7) W h);unfold Ko at Hx;generalize Dp y=py at *;go_wp2_with fail;refine(Hx.o _ (Hkx.o.after ((Ar _ _).alloc (Am _) _))).mono ?_;rintro e w3 ⟨rfl,hb3⟩;have Hb3:=Aa (((Ar wr.heap.size wr).alloc (Am _) _).trans (hb3.mono aH));have Ho3:=Aa (Hbl.o.below Hb3.o);have hs3:wA.heap.size<=w3.heap.size:=aa hsz Hb3.o.size;clear hb3;go_wp2_with fail;refine(Tj wA.heap.size wA.heap.size acc py w3 Ho3.o aF hs3).mono ?_;rintro e w4 ⟨rfl,hbl4,hb4⟩;have Hbl4:=Aa hbl4;have Hb4:=Aa ((Hbr.o.trans (Hb3.o.mono hsz)).trans hb4);clear hbl4 hb4;go_wp2_with fail;go_roundw
  case rel=>exact⟨m+1,_,by go_num,by omega,Hbl4.o,Hst.o,Hb4.o⟩
  case measure=>simp[intOf];omega):p:=h
theorem Qd8(wh:UInt8)(hw:wh=91\/wh=82)(ks:List Vl)(ih:∀x∈ks,IbC x)(hl:(Dp (.mk wh [] 0 ks)).length<=999999):IbC (.mk wh [] 0 ks):=by
 intro P sl w h;simp only[Vl.kids]at h;obtain⟨A,c,xs,rfl,rfl,hlx,hr,hP,hk⟩:=h;have hxl:(Av xs).length=xs.length:=eu;have hmm:(Av xs).map Dp=xs.map fun x=>Dp x.1:=eu;have Ih:=Aa ih;obtain⟨wA,hwA⟩:∃wA,wA=w.alloc (.cells #[.int .u8 (wh.toNat:Int),a6,.int .i64 0,.slice A xs.length c] 75):=⟨_,rfl⟩
 obtain⟨w1,hw1⟩:∃w1,w1=wA.alloc (.cells #[.pointer none,.slice none 0 0] 209):=⟨_,rfl⟩
 have hbA:Below w w wA:=by rw[hwA];exact(Ar _ _).alloc (Am _) _
 have hzA:w.heap.size+1=wA.heap.size:=by rw[hwA];simp
 have x3:w1.cell? (w,3)=some (.slice A xs.length c):=by rw[hw1,hwA];simp[go_sem]
 have HW1:=@Aa (w1=(w.alloc (.cells #[.int .u8 (wh.toNat:Int),a6,.int .i64 0,.slice A xs.length c] 75)).alloc (.cells #[.pointer none,.slice none 0 0] 209)) (by rw[hw1,hwA]);have Hbl1:=@Aa (Bld wA.heap.size wA.heap.size [] w1) (by rw[hw1];exact Qim wA);have Hb1:=@Aa (Below wA wA w1) f5;have hz1:w1.heap.size=wA.heap.size+1:=cB;have HbA:=Aa hbA;have Hr:=Aa (hr.below hbA);have Hk:=Aa (fun x hx=>(hk x hx).after hbA);have HN:=Aa (fun W=>Gn xs.length W aF)
 have HF:=Aa (show Dp (.mk wh [] 0 (Av xs))=(if wh=91 then Dg xs.length else[])++(xs.map fun(x:Vl × Value)=>Dp x.1).flatten++(if wh=91 then[]else[0])from by
  rcases hw with rfl|rfl<;>simp[Dp,byW,Q5,hmm,hxl])
 rw[HF.o]at hl ⊢;simp only[af]at hl;unfold Ko;simp only[Vl.what,Vl.text,Vl.tag,Vl.kids,hxl];clear ih hr hP hk hw1 hwA hbA hmm hxl HF;rcases hw with rfl|rfl
 ·simp only[if_true]at hl ⊢;have HF:=@Aa (([]++Dg xs.length)++((xs.drop 0).map fun(x:Vl × Value)=>Dp x.1).flatten=Dg xs.length++(xs.map fun(x:Vl × Value)=>Dp x.1).flatten++[]) aH;have hlF:(Dg xs.length++(xs.map fun(x:Vl × Value)=>Dp x.1).flatten++[]).length<=999999:=eC;generalize Dg xs.length++(xs.map fun(x:Vl × Value)=>Dp x.1).flatten++[]=F at HF hlF ⊢;clear hl;go_enter func145,ntmps145;go_wp2_with fail;generalize hwg:World.alloc (World.alloc w _) _=wg;obtain rfl:w1=wg:=HW1.o.trans hwg;clear hwg;refine(HN.o _).mono ?_;rintro e w2 ⟨rfl,hb2⟩;have hs2:=hb2.size;have Hbl2:=Aa (Hbl1.o.below hb2);have Hb2:=Aa (Hb1.o.trans (hb2.mono aF));have y3:=(hb2.cell (p:=⟨w.heap.size,3,none⟩) (show w.heap.size<w1.heap.size by omega)).trans x3;clear hb2;go_wp2_with fail;refine(Tj wA.heap.size wA.heap.size [] (Dg xs.length) w2 Hbl2.o (by have:=Cb xs.length;simp;omega) aF).mono ?_;rintro e w3 ⟨rfl,hbl3,hb3⟩;have Hbl3:=Aa hbl3;have Hb3:=Aa (Hb2.o.trans hb3);replace y3:=(hb3.cell (p:=⟨w.heap.size,3,none⟩) (show w.heap.size<wA.heap.size by omega)).trans y3
  clear hbl3 hb3;go_wp2_with fail;go_loopw [43] (fun i wr=>∃(m:Nat) (acc:List UInt8),i=.int .i64 m/\m<=xs.length/\Hid (Bld wA.heap.size wA.heap.size acc wr)/\Hid (acc++((xs.drop m).map fun(x:Vl × Value)=>Dp x.1).flatten=F)/\Hid (Below wA wA wr)) (fun i _=>xs.length - (intOf i).toNat)
  case atStart=>exact⟨0,_,rfl,ae _,Hbl3.o,HF.o,Hb3.o⟩
  case round=>
   obtain⟨m,acc,rfl,hm,Hbl,Hacc,Hbr⟩:=hrel;have m1:(0:Int)<=(m:Int):=aF;by_cases hlt:m<xs.length
   ·exact Qjy
   ·have HE:=@Aa (acc=F) cO;have HS:=Aa (Si wA.heap.size wA.heap.size acc wr Hbl.o Hbr.o.size);go_wp2_with fail;refine HS.o.mono ?_;rintro e w6 ⟨rfl,hb6⟩;have Hb6:=Aa (HbA.o.trans ((Hbr.o.trans hb6).mono aF));clear hb6;go_wp2_with fail;go_ret;exact⟨by rw[HE.o];rfl,Hb6.o⟩
 simp only[show ¬((82:UInt8)=91)by decide,if_false,List.nil_append,List.length_nil]at hl ⊢;rw[show (((82:UInt8).toNat:Nat):Int)=82 from rfl,show ((0:Nat):Int)=0 from rfl];have HF:=@Aa ([]++((xs.drop 0).map fun(x:Vl × Value)=>Dp x.1).flatten=(xs.map fun(x:Vl × Value)=>Dp x.1).flatten) aH;have hlF:(xs.map fun(x:Vl × Value)=>Dp x.1).flatten.length<=999999:=aF;generalize (xs.map fun(x:Vl × Value)=>Dp x.1).flatten=F at HF hlF ⊢;clear hl;go_enter func145,ntmps145;go_wp2_with fail;generalize hwg:World.alloc (World.alloc w _) _=wg;obtain rfl:w1=wg:=HW1.o.trans hwg;clear hwg;go_loopw [85] (fun i wr=>∃(m:Nat) (acc:List UInt8),i=.int .i64 m/\m<=xs.length/\Hid (Bld wA.heap.size wA.heap.size acc wr)/\Hid (acc++((xs.drop m).map fun(x:Vl × Value)=>Dp x.1).flatten=F)/\Hid (Below wA wA wr)) (fun i _=>xs.length - (intOf i).toNat)
 case atStart=>exact⟨0,_,rfl,ae _,Hbl1.o,HF.o,Hb1.o⟩
 case round=>
  obtain⟨m,acc,rfl,hm,Hbl,Hacc,Hbr⟩:=hrel;have m1:(0:Int)<=(m:Int):=aF;by_cases hlt:m<xs.length
  ·exact Qjy
  ·have HE:=@Aa (acc=F) cO;have HS:=Aa (Si wA.heap.size wA.heap.size acc wr Hbl.o Hbr.o.size);have hal:acc.length<=999999:=by rw[HE.o];exact hlF
   go_wp2_with fail;refine HS.o.mono ?_;rintro e w6 ⟨rfl,hb6⟩;have Hb6:=Aa (HbA.o.trans ((Hbr.o.trans hb6).mono aF));clear hb6;go_wp2_with fail;go_ret;exact⟨by rw[HE.o];rfl,Hb6.o⟩
theorem Qi0{S:List Ty}(hT:∀t∈S,En t):∀(d:Nat) (k:Kd) (v:Vl),Nm S d k v->(Dp v).length<=999999->IbC v:=by
 intro d;induction d with
 |zero=>intro k v h;cases h
 |succ d ih=>
  intro k v h hl;cases h with
  |n hs hb h=>exact Qlc _ h
  |t hs hb h=>exact Qk2 _ (by rw[Qef]at hl;simp[Re]at hl;omega)
  |f hs hb=>exact Qk0 _
  |lst hs hl2 h=>
   refine Qd8 91 (.inl rfl) _ (fun x hx=>ih _ _ (h x hx) ?_) hl;rw[Y7,af]at hl;have:=Qhb hx;omega
  |non hs=>exact Qja
  |som hs h=>
   have h2:=hl;rw[Rb,List.length_cons]at h2;exact Qjd _ (ih _ _ h aF) aF
  |@enm _ _ t f hs hb ht h9 hf=>exact Qle _ eh
  |@uni _ _ t f x hs hb ht h5 hf h=>
   rw[Zs]at hl;simp only[Re,af]at hl;exact Qhv 85 (.inl rfl) _ eh _ (ih _ _ h aF) aF
  |@rcd _ _ t fs hs hb ht h2 hf h hn hp=>
   refine Qd8 82 (.inr rfl) _ (fun x hx=>?_) hl;obtain⟨p,hq,rfl⟩:=av.1 hx;have h3:=Qin hq;rw[Zi,af]at hl;exact Qhv 61 (.inr rfl) _ (by have:=((hT t (Ch ht).1).2.2.1.1 p.1 (Ci (hf p hq)).2).2.1;omega) _ (ih _ _ (h p hq) aF) aF
def Qhe:List UInt8:=[48,49,50,51,52,53,54,55,56,57]
theorem Qhz(c:UInt8):Qhe.contains c=Az c:=by
 have:=Pm (p:=fun c=>Qhe.contains c == Az c) ew c;simpa using this
theorem Qgm(s:List UInt8):s.dropWhile (Qhe.contains ·)=s.dropWhile Az:=by congr 1;funext c;exact Qhz c
theorem Qgg(s:List UInt8):s.dropWhile (Qdq.contains ·)=s.dropWhile B0:=by congr 1;funext c;exact Qa8 c
theorem Q9(p:UInt8->Bool)(s:List UInt8):s.take (s.length - (s.dropWhile p).length)=s.takeWhile p/\(s.dropWhile p).length<=s.length:=by
 have e:s.takeWhile p++s.dropWhile p=s:=List.takeWhile_append_dropWhile;have hl:(s.takeWhile p).length+(s.dropWhile p).length=s.length:=by rw[<-af,e]
 refine⟨?_,by omega⟩;conv=>lhs;arg 2;rw[<-e]
 rw[show s.length - (s.dropWhile p).length=(s.takeWhile p).length by omega,List.take_left]
def Gs(t:List UInt8):Nat:=(Cg (t.takeWhile Az)).getD 0
def Ga(m:Nat)(t:List UInt8):Bool:=match Cg (t.takeWhile Az)with|some n=>decide (n<=m)|none=>false
theorem Qjq(m:Nat)(t:List UInt8):pnV (t.takeWhile Az) m=.tuple #[.int .i64 (Gs t:Int),.bool (Ga m t)]:=by
 unfold pnV Gs Ga;cases Cg (t.takeWhile Az)<;>rfl
theorem Fv.grow{w w':World}{b:Nat}{p:Value}{t:List UInt8}{bad:Bool}(h:Fv w b p t bad)(hb:Below w w w'):Fv w' b p t bad:=h.far hb h.1
theorem Nz(b m:Nat)(p:Value)(t:List UInt8)(bad:Bool)(w:World)(h:Fv w b p t bad)(hl:t.length<=4000000)(hm:m<=999999):
  Calls prog 156 #[b,.int .i64 m] w fun e w'=>
   e=.returned (.int .i64 (Gs t:Int))/\Dc w b p (t.dropWhile Az) (bad || !Ga m t) w':=by
 have Htl:=Aa (fun W=>Nf t Qhe W aI aI);simp only[Qgm]at Htl;have Hpn:=Aa (fun W=>Ez (t.takeWhile Az) m W (by have:=(Q9 Az t).1;have h2:=List.length_take_le (t.length - (t.dropWhile Az).length) t;rw[this]at h2;omega) hm);rw[Qjq]at Hpn;obtain⟨htk,hdl⟩:=Q9 Az t;have Htk:=Aa htk;unfold Qhe at Htl;have HS:=Aa h;have kw:IntKind.i64.wrap ((t.length:Int) - ((t.dropWhile Az).length:Int))=(t.length:Int) - ((t.dropWhile Az).length:Int):=IntWalk.i64_in _ aF;have k1:(0:Int)<=(t.length:Int) - ((t.dropWhile Az).length:Int):=aF;have k2:(t.length:Int) - ((t.dropWhile Az).length:Int)<=(t.length:Int):=aF;have k3:((t.length:Int) - ((t.dropWhile Az).length:Int)).toNat=t.length - (t.dropWhile Az).length:=aF;generalize Gs t=n at *;generalize Ga m t=ok at *;generalize t.takeWhile Az=a at *;generalize t.dropWhile Az=r at *;obtain⟨h0,h1,h2,h3,h4⟩:=h;clear htk h1;go_enter func156,ntmps156;go_wp2_with fail;refine(Htl.o _).mono ?_;rintro e w1 ⟨rfl,hb1⟩;have HS1:=Aa (HS.o.grow hb1);have Hb1:=Aa hb1;have C1:=Aa ((hb1.cell (p:=⟨b,1,none⟩) h0).trans h3);have hz1:b<w1.heap.size:=by have:=hb1.size;omega
 clear hb1 HS h2 h3 h4;go_wp2_with fail;refine M0 [14,15,16,17,18,19,20,21,22,23,24,25,26,27,28,13,29,30,6,7]
  (fun ix v W=>match ix with|0=>v=b|1=>v=b|2=>v=(b,1)|3=>v=t|4=>v=b|5=>v=b|6=>v=(b,1)|7=>v=t|8=>v=(t.length:Int)|9=>v=r|10=>v=(r.length:Int)|11=>v=.int .i64 ((t.length:Int) - (r.length:Int))|12=>v=a|13=>v=(m:Int)|14=>v=.tuple #[(n:Int),.bool ok]|15=>v=.tuple #[(n:Int),.bool ok]|16=>v=(n:Int)|17=>v=.bool ok|18=>v=(n:Int)|19=>v=.bool ok|_=>True)
  (fun L U W=>∃k,W=w1.drewN k) (⟨1,rfl⟩) ?_ ?_
 ·repeat (first|exact Ap.nil|(refine Ap.cons ?_ ?_;rotate_left))
  all_goals
   rintro L U W hL hpre HR Hdep K hK;obtain⟨k,hk⟩:=HR.o;have c1:W.cell? (b,1)=t:=by rw[hk];exact C1.o
   clear hk;first|(simp[Region.binds]at hpre;done)|simp[Region.binds]at hpre|clear hpre
  iterate 11
   ·exact fD
  ·exact gT
  ·exact gJ
  ·exact fD
  ·go_simp;refine(Hpn.o W).mono ?_;rintro e w' ⟨rfl,rfl⟩;exact kF hK HR.o
  iterate 5
   ·exact fD
 rintro L U W hL hφ hR;have e18:U 18=(n:Int):=hφ 18 aI;have e19:U 19=.bool ok:=hφ 19 aI;simp only[e18,e19];clear hφ;obtain⟨k,rfl⟩:=hR;clear hL;have HS2:=Aa (HS1.o.drew k);have Hb2:=Aa (below_drewN Hb1.o k);obtain⟨q0,q1,_,_,_⟩:=HS2.o;have hf1:=q1.live 1;have hf2:=q1.live 2;clear q1;have j2:=HS2.o.2.2.2.1;have j3:=HS2.o.2.2.2.2;cases ok with
 |true=>
  go_wp2_with fail;go_ret;refine⟨rfl,by simpa using HS2.o.setText r,(Ct Hb2.o _).trans (A0 _ _ _ _)⟩
 |false=>
  go_wp2_with fail;go_ret;refine⟨rfl,by simpa using(HS2.o.setBad true).setText r,((Ct Hb2.o _).trans (A0 _ _ _ _)).trans (A0 _ _ _ _)⟩
def Qkh(t:List UInt8)(bad:Bool)(b:Nat)(p:Value)(w:World)(e:Ending)(w':World):Prop:=
 ∃(x t':List UInt8) (bad':Bool),e=.returned x/\Dc w b p t' bad' w'/\(if bad then none else Mp t)=(if bad' then none else some (x,t'))/\x.length+t'.length<=t.length
theorem Pe{c:UInt8}{t:List UInt8}:((Aq c t).getD t).length<=t.length:=by
 cases h:Aq c t with
 |none=>exact Am _
 |some r=>rw[Ce]at h;subst h;simp
theorem B6(c:UInt8)(t:List UInt8)(bad:Bool):Aw [c] t bad=if bad then none else Aq c t:=by unfold Aw;rw[Qeu]
theorem Qaw(t t1 t3:List UInt8)(bad b1 b2 b3:Bool)(h1:t1=(Aw [39] t bad).getD t)(hb1:b1=(Aw [39] t bad).isNone)(h3:t3=(Aw [39] (t1.dropWhile B0) b1).getD (t1.dropWhile B0))(hb2:b2=(Aw [39] (t1.dropWhile B0) b1).isNone)
  (hb3:b3=(b2 || decide (12<(t1.takeWhile B0).length))):
  (if bad then none else Mp t)=(if b3 then none else some (t1.takeWhile B0,t3))/\(t1.takeWhile B0).length+t3.length<=t.length:=by
 have e:(t1.takeWhile B0).length+(t1.dropWhile B0).length=t1.length:=by rw[<-af,List.takeWhile_append_dropWhile]
 rw[B6]at h1 hb1 h3 hb2;subst h1 hb1 h3 hb2 hb3;constructor
 ·cases bad with
  |true=>simp
  |false=>
   unfold Mp;simp only[ak,if_false];cases Aq 39 t with
   |none=>simp
   |some r=>
    simp only[Option.getD_some,Option.isNone_some,ak,if_false];cases Aq 39 (r.dropWhile B0)with
    |none=>simp
    |some q=>
     simp only[Option.getD_some,Option.isNone_some,Bool.false_or,decide_eq_true_eq];by_cases h:(r.takeWhile B0).length<=12
     ·rw[if_pos h,if_neg aF]
     rw[if_neg h,if_pos aF]
 have k1:((if bad=true then none else Aq 39 t).getD t).length<=t.length:=by cases bad;exact Pe;exact Am _
 generalize (if bad=true then none else Aq 39 t)=o at *;have k2:((if o.isNone=true then none else Aq 39 ((o.getD t).dropWhile B0)).getD ((o.getD t).dropWhile B0)).length<=((o.getD t).dropWhile B0).length:=by cases o.isNone;exact Pe;exact Am _
 omega
theorem Qdt(b:Nat)(p:Value)(t:List UInt8)(bad:Bool)(w:World)(h:Fv w b p t bad)(hl:t.length<=4000000):
  Calls prog 157 #[b] w (Qkh t bad b p w):=by
 have Hq:=Aa (Qaw t);have Hw1:=Aa (fun W (h:Fv W b p t bad)=>Da b p t [39] bad W h hl);have hk1:((Aw [39] t bad).getD t).length<=t.length:=eY;have HS:=Aa h;clear h;obtain⟨t1,ht1⟩:∃t1,t1=(Aw [39] t bad).getD t:=⟨_,rfl⟩
 obtain⟨b1,hb1⟩:∃b1,b1=(Aw [39] t bad).isNone:=⟨_,rfl⟩
 rw[<-ht1]at hk1;have Hq:=Aa (fun t3 b2 b3=>Hq.o t1 t3 bad b1 b2 b3 ht1 hb1);rw[<-ht1,<-hb1]at Hw1;clear ht1 hb1;have Htl:=Aa (fun W=>Nf t1 Qdq W aI aI);simp only[Qgg]at Htl;unfold Qdq at Htl;obtain⟨htk,hdl⟩:=Q9 B0 t1;have Htk:=Aa htk;have Hw2:=Aa (fun W (h:Fv W b p (t1.dropWhile B0) b1)=>Da b p (t1.dropWhile B0) [39] b1 W h aF);clear htk;go_enter func157,ntmps157;go_wp2_with fail;refine(Hw1.o _ HS.o).mono ?_;rintro e w1 ⟨rfl,hs1,hg1⟩;have HS1:=Aa hs1;have Hg1:=Aa hg1;obtain⟨z1,_,_,c1,_⟩:=hs1;clear hg1;go_wp2_with fail;refine(Htl.o _).mono ?_;rintro e w2 ⟨rfl,hb2⟩;have HS2:=Aa (HS1.o.grow hb2);have Hg2:=Aa (Hg1.o.trans (Ct hb2 _));have C2:=Aa HS2.o.2.2.2.1;have hz2:b<w2.heap.size:=HS2.o.1;clear hb2 c1 z1;have kw:IntKind.i64.wrap ((t1.length:Int) - ((t1.dropWhile B0).length:Int))=(t1.length:Int) - ((t1.dropWhile B0).length:Int):=IntWalk.i64_in _ aF;have k1:(0:Int)<=(t1.length:Int) - ((t1.dropWhile B0).length:Int):=aF;have k2:(t1.length:Int) - ((t1.dropWhile B0).length:Int)<=(t1.length:Int):=aF;have k3:((t1.length:Int) - ((t1.dropWhile B0).length:Int)).toNat=t1.length - (t1.dropWhile B0).length:=aF;obtain⟨a,ha⟩:∃a,a=t1.takeWhile B0:=⟨_,rfl⟩
 obtain⟨r,hr⟩:∃r,r=t1.dropWhile B0:=⟨_,rfl⟩
 rw[<-ha]at Htk;rw[<-hr]at Htk Hw2 hdl kw k1 k2 k3;simp only[<-hr];have Hq:=Aa (fun t3 b2 b3=>Hq.o t3 b2 b3);simp only[<-hr,<-ha]at Hq;clear ha hr;go_wp2_with fail;refine M0 [12,13,14,15,16,17,18,19,20,21,22,23,24,4]
  (fun ix v W=>match ix with|0=>v=b|1=>v=b|2=>v=(b,1)|3=>v=.string ⟨t1.toArray⟩|4=>v=b|5=>v=b|6=>v=(b,1)|7=>v=.string ⟨t1.toArray⟩|8=>v=(t1.length:Int)|9=>v=.string ⟨r.toArray⟩|10=>v=(r.length:Int)|11=>v=.int .i64 ((t1.length:Int) - (r.length:Int))|12=>v=.string ⟨a.toArray⟩|13=>v=.string ⟨a.toArray⟩|_=>True)
  (fun L U W=>∃k,W=w2.drewN k) (⟨1,rfl⟩) ?_ ?_
 ·repeat (first|exact Ap.nil|(refine Ap.cons ?_ ?_;rotate_left))
  all_goals
   rintro L U W hL hpre HR Hdep K hK;obtain⟨k,hk⟩:=HR.o;have c1:W.cell? (b,1)=some (.string ⟨t1.toArray⟩):=by rw[hk];exact C2.o
   clear hk;first|(simp[Region.binds]at hpre;done)|simp[Region.binds]at hpre|clear hpre
  iterate 11
   ·exact fD
  ·exact gT
  ·exact gJ
  ·exact fD
 rintro L U W hL hφ hR;have e13:U 13=.string ⟨a.toArray⟩:=hφ 13 aI;simp only[e13];clear hφ;obtain⟨k,rfl⟩:=hR;clear hL;have HS3:=Aa (HS2.o.drew k);have Hg3:=Aa (Hg2.o.trans (Ct (below_drewN (Ar _ _) k) _));have hf1:=HS3.o.2.1.live 1;have q0:=HS3.o.1;have j2:=HS3.o.2.2.2.1;have j3:=HS3.o.2.2.2.2;go_wp2_with fail;refine(Hw2.o _ (HS3.o.setText r)).mono ?_;rintro e w4 ⟨rfl,hs4,hg4⟩;have HS4:=Aa hs4;have Hg4:=Aa ((Hg3.o.trans (A0 _ _ _ _)).trans hg4);clear hg4 hs4 j2 j3 hf1 q0;have Hq4:=Aa (fun b3=>Hq.o _ _ b3 rfl rfl);generalize (Aw [39] r b1).getD r=t3 at *;generalize (Aw [39] r b1).isNone=b2 at *;have hf2:=HS4.o.2.1.live 2;have q0:=HS4.o.1;have k3:=HS4.o.2.2.2.2;by_cases hlen:a.length<=12
 ·have t1:decide ((12:Int)<(a.length:Int))=false:=aL;go_wp2_with fail;go_ret;obtain⟨h1,h2⟩:=Hq4.o b2 aL;exact⟨a,t3,b2,rfl,⟨HS4.o,Hg4.o⟩,h1,h2⟩
 have t1:decide ((12:Int)<(a.length:Int))=true:=aL;go_wp2_with fail;go_ret;obtain⟨h1,h2⟩:=Hq4.o true aL;exact⟨a,t3,true,rfl,⟨HS4.o.setBad true,Hg4.o.trans (A0 _ _ _ _)⟩,h1,h2⟩
theorem Zd{w W:World}{row:Option Nat}{B o:Nat}(h:w.grownBy W row)(hB:w.heap.size<=B):∀(cs:List Value) (o:Nat),w.grownBy (W.setCells B o cs) row:=by
 intro cs;induction cs generalizing W with
 |nil=>intro o;exact h
 |cons v cs ih=>
  intro o;refine ih (W:=W.setCell ⟨B,o,none⟩ v) ⟨h.os,h.tape,h.output,by simpa using h.size,fun k hk hne=>?_⟩ (o+1);rw[Go.heap_setCell_other _ _ _ _ (show k≠B by omega)];exact h.block k hk hne
theorem Dc.trans{w w1 w2:World}{b:Nat}{p:Value}{t t':List UInt8}{x y:Bool}(h1:Dc w b p t x w1)(h2:Dc w1 b p t' y w2):Dc w b p t' y w2:=⟨h2.1,h1.2.trans h2.2⟩
theorem Dc.pre{w w1 w2:World}{b:Nat}{p:Value}{t:List UInt8}{x:Bool}(hb:Below w w w1)(h:Dc w1 b p t x w2):Dc w b p t x w2:=⟨h.1,(Ct hb _).trans h.2⟩
theorem Dc.post{w w1 w2:World}{b:Nat}{p:Value}{t:List UInt8}{x:Bool}(h:Dc w b p t x w1)(hb:Below w1 w1 w2):Dc w b p t x w2:=⟨h.1.grow hb,h.2.trans (Ct hb _)⟩
theorem Dc.set{w W:World}{b B:Nat}{p:Value}{t:List UInt8}{x:Bool}(h:Dc w b p t x W)(hB:w.heap.size<=B)(hne:B≠b)(cs:List Value):Dc w b p t x (W.setCells B 0 cs):=by
 obtain⟨⟨h0,h1,h2,h3,h4⟩,hg⟩:=h;have hk:(W.setCells B 0 cs).heap[b]?=W.heap[b]?:=(Js B cs 0 W).block b h0 (by simpa using hne.symm);have hc:∀o,(W.setCells B 0 cs).cell? ⟨b,o,none⟩=W.cell? ⟨b,o,none⟩:=fun o=>World.cell?_of_block (a:=⟨b,o,none⟩) hk;obtain⟨c1,t1,e1⟩:=h1;exact⟨⟨by rw[Bw];exact h0,⟨c1,t1,hk.trans e1⟩,(hc 0).trans h2,(hc 1).trans h3,(hc 2).trans h4⟩,Zd (o:=0) hg hB cs 0⟩
theorem Dc.env{w0 w w1:World}{b:Nat}{p:Value}{t:List UInt8}{x:Bool}(h:Dc w b p t x w1)(h0:Below w0 w0 w)(hb:w0.heap.size<=b):Below w0 w0 w1:=
 h0.grown h.2 h0.size fun k hk=>by injection hk with hk;omega
theorem E9.set{P:Nat->Prop}{w:World}{v:Value}{ks:List Vl}(h:E9 P w v ks){B:Nat}(hB:¬P B)(cs:List Value):E9 P (w.setCells B 0 cs) v ks:=
 h.grown (Js B cs 0 w) fun b hb e=>by injection e with e;subst e;exact hB hb
def Kb(w:World)(b:Nat)(p:Value)(t:List UInt8)(N:Nat)(r:Option (Vl × List UInt8))(e:Ending)(w':World):Prop:=
 ∃(v:Vl) (sl:Value) (t':List UInt8),e=.returned (Ko v sl)/\E9 (fun b=>w.heap.size<=b) w' sl v.kids/\Dc w b p t' r.isNone w'/\(∀x,r=some x->v=x.1/\t'=x.2)/\Bd v/\t'.length<=t.length/\(Bi v).length+t'.length<=t.length+8*N
def Fk:Vl:=.mk 0 [] 0 []
theorem Es{w:UInt8}{tx:List UInt8}{tg:Nat}(h1:tg<=1000000000)(h3:tx.length<=1000000):Bd (.mk w tx tg []):=.mk h1 eV h3 aH
def kcs(k:Kd):List Value:=[k.signs,k.base,k.name]
def Gv(v:Vl)(sl:Value):List Value:=[.int .u8 (v.what.toNat:Int),v.text,(v.tag:Int),sl]
def J7(w:World)(b:Nat)(p:Value)(k:Kd)(t:List UInt8)(bad:Bool)(W:World):Prop:=
 Dc w b p t bad W/\W.rangeAt w 0 (kcs k)/\W.there (w.heap.size+1) 0 4/\w.heap.size+1<W.heap.size
theorem J7.init{w:World}{b:Nat}{p:Value}{k:Kd}{t:List UInt8}{bad:Bool}(h:Fv w b p t bad){T U:TypeId}:J7 w b p k t bad ((w.alloc (.cells #[k.signs,k.base,k.name] T)).alloc (.cells #[.int .u8 0,a6,.int .i64 0,.slice none 0 0] U)):=by
 have h1:Below w w ((w.alloc (.cells #[k.signs,k.base,k.name] T)).alloc (.cells #[.int .u8 0,a6,.int .i64 0,.slice none 0 0] U)):=((Ar _ _).alloc (Am _) _).alloc aH _;refine⟨⟨h.grow h1,Ct h1 _⟩,?_,?_,by simp⟩
 ·have:=Ah (Bo w (kcs k) T) (show w.heap.size<(w.alloc (.cells (kcs k).toArray T)).heap.size by simp) ((Ar _ _).alloc (Am _) (.cells #[.int .u8 0,a6,.int .i64 0,.slice none 0 0] U));exact this
 have:=B9 (w.alloc (.cells #[k.signs,k.base,k.name] T)) [.int .u8 0,a6,.int .i64 0,.slice none 0 0] U;simpa using this
theorem J7.post{w W W':World}{b:Nat}{p:Value}{k:Kd}{t:List UInt8}{bad:Bool}(h:J7 w b p k t bad W)(hb:Below W W W'):J7 w b p k t bad W':=
 ⟨h.1.post hb,Ah h.2.1 (by have:=h.2.2.2;omega) hb,An h.2.2.1 h.2.2.2 hb,a8 h.2.2.2 hb.size⟩
theorem J7.step{w W W':World}{b:Nat}{p:Value}{k:Kd}{t t':List UInt8}{bad bad':Bool}(h:J7 w b p k t bad W)(hb:b<w.heap.size)(hs:Dc W b p t' bad' W'):J7 w b p k t' bad' W':=
 ⟨h.1.trans hs,Gb h.2.1 hs.2 aL,Gl h.2.2.1 hs.2 h.2.2.2 aL,a8 h.2.2.2 hs.2.size⟩
theorem J7.fin{w W w9:World}{b N:Nat}{p:Value}{k:Kd}{t t':List UInt8}{bad':Bool}{v:Vl}{sl:Value}{r:Option (Vl × List UInt8)}(F:J7 w b p k t' bad' W)(hb:b<w.heap.size)(HS:w9=W.setCells (w.heap.size+1) 0 (Gv v sl))
  (hv:E9 (fun c=>w.heap.size+2<=c) W sl v.kids) (hr:bad'=r.isNone) (hx:∀x,r=some x->v=x.1/\t'=x.2) (hB:Bd v) (hl:t'.length<=t.length) (hn:(Bi v).length+t'.length<=t.length+8*N):
  Kb w b p t N r (.returned (.agg (Gv v sl).toArray)) w9/\w9.rangeAt (w.heap.size+1) 0 (Gv v sl):=by
 subst HS hr;exact⟨⟨v,sl,t',rfl,(hv.set (B:=w.heap.size+1) aF _).mono fun c hc _=>by omega,F.1.set aF aF _,hx,hB,hl,hn⟩,a7 _ _ _ _ F.2.2.1⟩
theorem Vi(b N:Nat)(p:Value)(t:List UInt8)(k:Kd)(w:World)(h:Fv w b p t true):
  Calls prog 99 #[b,Gy k] w (Kb w b p t N none):=by
 have HS:=Aa h;obtain⟨h0,h1,h2,h3,h4⟩:=h;have hbn:¬(b=w.heap.size):=aF;have hbn2:¬(b=w.heap.size+1):=aF;unfold Gy;clear h1 h2 h3;go_enter func99,ntmps99;go_wp2_with fail;have F:=(J7.init (k:=k) HS.o (T:=67) (U:=75)).1;refine aD (v:=.agg (Gv Fk (.slice none 0 0)).toArray) ?_ rfl ⟨Fk,.slice none 0 0,t,rfl,E9.nil _ _,F,aH,Es aI aI,Am _,by simp[Fk,Bi,D7,H9]⟩;refine Ax results99 _ _ (w.heap.size+1) _ _ rfl ?_ underlying75 rfl aJ;have:=Bo (w.alloc (.cells #[k.signs,k.base,k.name] 67)) [.int .u8 0,a6,.int .i64 0,.slice none 0 0] 75;simpa [Gv,Fk,Vl.what,Vl.text,Vl.tag]using this
theorem Qbo(t:List UInt8):Qa t=if Ga 999999 t then some (Gs t,t.dropWhile Az)else none:=by
 unfold Qa Ga Gs;cases h:Cg (t.takeWhile Az)with
 |none=>simp
 |some n=>simp[(Br.1 h).1]
theorem Qan(t:List UInt8):Gs t<=999999:=by
 unfold Gs;cases h:Cg (t.takeWhile Az)with
 |none=>simp
 |some n=>exact(Br.1 h).1
theorem Zo(p:UInt8->Bool)(t:List UInt8):(t.dropWhile p).length<=t.length:=(Q9 p t).2
theorem Qhs(b N:Nat)(p:Value)(t:List UInt8)(k:Kd)(w:World)(h:Fv w b p t false)(hl:t.length<=900)(hs:k.signs=[])(hb:k.base=[110])(q:Option (Vl × List UInt8))(hq:q=match Qa t with|some (n,r)=>some (.mk 110 (Au n) 0 [],r)|none=>none):
  Calls prog 99 #[b,Gy k] w (Kb w b p t (N+1) q):=by
 have HQ:=Aa hq;have HS:=Aa h;have hb0:=h.1;have hbn:¬(b=w.heap.size):=aF;have hbn2:¬(b=w.heap.size+1):=aF;have c2:=h.2.2.2.2;clear hq;obtain⟨sg,bs,nm⟩:=k;simp only at hs hb;have HN:=Aa (Qbo t);have hnn:=Qan t;have Hn:=Aa (fun W (h:Fv W b p t false)=>Nz b 999999 p t false W h aF aI);have Hd:=Aa (fun W=>Ns (Gs t) (Gs t) W (Am _) aF);have hdl:=Di 5 (Gs t) du;have hdr:=Zo Az t;generalize Gs t=n at *;generalize Ga 999999 t=ok at *;generalize t.dropWhile Az=r at *;subst hs hb;unfold Gy;simp only;clear h;go_enter func99,ntmps99;go_wp2_with fail;refine(Jg _ _ _).mono ?_;rintro e w2 ⟨rfl,hb2⟩;have F2:=Aa ((J7.init (k:=⟨[],[110],nm⟩) HS.o).post hb2);clear hb2 c2;have k0:=Ab F2.o.2.1 0 rfl;have k1:=Ab F2.o.2.1 1 rfl;have k2:=Ab F2.o.2.1 2 rfl;simp only[aj]at k0 k1 k2;have s2:=F2.o.1.1.2.2.2.2;go_wp2_with fail;refine(Hn.o _ F2.o.1.1).mono ?_;rintro e w3 ⟨rfl,hs3⟩;have F3:=Aa (F2.o.step hb0 hs3);clear hs3 k0 k1 k2 s2;go_wp2_with fail;refine(Hd.o _).mono ?_;rintro e w4 ⟨rfl,hb4⟩;have F4:=Aa (F3.o.post hb4);clear hb4;go_wp2_with ((with_reducible refine Ad (op:=⟨none,.store 75 _ _,_,_,_,none⟩) rfl 75 _ _ rfl (w.heap.size+1) 0 [.int .u8 110,.string ⟨(Au n).toArray⟩,.int .i64 0,.slice none 0 0] ?_ ?_ ?_ ?_ ?_ ?_);rfl;rfl;(exact F4.o.2.2.1);kernel_rfl;(simp[Value.oneCell']);intro w9 HS9)
 have HQ:=HQ.o;rw[HN.o]at HQ;have Z:=J7.fin (t:=t) (N:=N+1) (v:=.mk 110 (Au n) 0 []) (sl:=.slice none 0 0) (r:=q) F4.o hb0 HS9.o (E9.nil _ _) (by rw[HQ];cases ok<;>rfl)
  (by rw[HQ];cases ok<;>simp) (Es aI aF) hdr eM
 exact aD (v:=.agg (Gv (.mk 110 (Au n) 0 []) (.slice none 0 0)).toArray) (Ax results99 _ _ (w.heap.size+1) _ _ rfl Z.2 underlying75 rfl aJ) rfl Z.1
theorem Qht(b N:Nat)(p:Value)(t:List UInt8)(k:Kd)(w:World)(h:Fv w b p t false)(hl:t.length<=900)(hs:k.signs=[])(hb:k.base=[116])(q:Option (Vl × List UInt8))(hq:q=match Mp t with|some (x,r)=>some (.mk 116 x 0 [],r)|none=>none):
  Calls prog 99 #[b,Gy k] w (Kb w b p t (N+1) q):=by
 have HQ:=Aa hq;have HS:=Aa h;have hb0:=h.1;have hbn:¬(b=w.heap.size):=aF;have hbn2:¬(b=w.heap.size+1):=aF;have c2:=h.2.2.2.2;clear hq;obtain⟨sg,bs,nm⟩:=k;simp only at hs hb;have Hn:=Aa (fun W (h:Fv W b p t false)=>Qdt b p t false W h aF);subst hs hb;unfold Gy;simp only;clear h;go_enter func99,ntmps99;go_wp2_with fail;refine(Jg _ _ _).mono ?_;rintro e w2 ⟨rfl,hb2⟩;have F2:=Aa ((J7.init (k:=⟨[],[116],nm⟩) HS.o).post hb2);clear hb2 c2;have k0:=Ab F2.o.2.1 0 rfl;have k1:=Ab F2.o.2.1 1 rfl;have k2:=Ab F2.o.2.1 2 rfl;simp only[aj]at k0 k1 k2;have s2:=F2.o.1.1.2.2.2.2;go_wp2_with fail;refine(Hn.o _ F2.o.1.1).mono ?_;rintro e w3 ⟨x,r,bad,rfl,hs3,hx,hxl⟩;have F3:=Aa (F2.o.step hb0 hs3);have Hx:=Aa hx;clear hs3 hx k0 k1 k2 s2;go_wp2_with ((with_reducible refine Ad (op:=⟨none,.store 75 _ _,_,_,_,none⟩) rfl 75 _ _ rfl (w.heap.size+1) 0 [.int .u8 116,x,.int .i64 0,.slice none 0 0] ?_ ?_ ?_ ?_ ?_ ?_);rfl;rfl;(exact F3.o.2.2.1);kernel_rfl;(simp[Value.oneCell']);intro w9 HS9)
 have HQ:=HQ.o;rw[show Mp t=if bad then none else some (x,r)from Hx.o]at HQ;have Z:=J7.fin (t:=t) (N:=N+1) (v:=.mk 116 x 0 []) (sl:=.slice none 0 0) (r:=q) F3.o hb0 HS9.o (E9.nil _ _) (by rw[HQ];cases bad<;>rfl)
  (by rw[HQ];cases bad<;>simp) (Es aI aF) aF eM
 exact aD (v:=.agg (Gv (.mk 116 x 0 []) (.slice none 0 0)).toArray) (Ax results99 _ _ (w.heap.size+1) _ _ rfl Z.2 underlying75 rfl aJ) rfl Z.1
theorem Qhw(b N:Nat)(p:Value)(t:List UInt8)(k:Kd)(w:World)(h:Fv w b p t false)(hl:t.length<=900)(hs:k.signs=[])(hb:k.base=[102])(q:Option (Vl × List UInt8))(hq:q=match Pc t with|some (x,r)=>some (.mk 102 (if x then Dy else Kh) 0 [],r)|none=>none):
  Calls prog 99 #[b,Gy k] w (Kb w b p t (N+1) q):=by
 have HQ:=Aa hq;have HS:=Aa h;have hb0:=h.1;have hbn:¬(b=w.heap.size):=aF;have hbn2:¬(b=w.heap.size+1):=aF;have c2:=h.2.2.2.2;clear hq;obtain⟨sg,bs,nm⟩:=k;simp only at hs hb;have HFL:=@Aa (Pc t=(match Aw Dy t false with|some r=>some (true,r)|none=>match Aw Kh t false with|some r=>some (false,r)|none=>none)) rfl;have Hy:=Aa (fun W (h:Fv W b p t false)=>Jc b p t Dy false W h aF);have Hw:=Aa (fun W (h:Fv W b p t false)=>Da b p t Kh false W h aF);have Hl1:=Aa (fun r (h:Aw Dy t false=some r)=>(Fl (p:=Dy)).1 h);have Hl2:=Aa (fun r (h:Aw Kh t false=some r)=>(Fl (p:=Kh)).1 h);subst hs hb;unfold Gy;simp only;clear h;rcases hy:Aw Dy t false with _|r
 ·rw[hy]at Hy HFL;unfold Dy at Hy;unfold Kh at Hw
  have HL:=Aa (show ((Aw Kh t false).getD t).length<=t.length from by
   cases h:Aw Kh t false with
   |none=>exact Am _
   |some r=>rw[Hl2.o r h];simp)
  clear hy;go_enter func99,ntmps99;go_wp2_with fail;refine(Jg _ _ _).mono ?_;rintro e w2 ⟨rfl,hb2⟩;have F2:=Aa ((J7.init (k:=⟨[],[102],nm⟩) HS.o).post hb2);clear hb2 c2;have k0:=Ab F2.o.2.1 0 rfl;have k1:=Ab F2.o.2.1 1 rfl;have k2:=Ab F2.o.2.1 2 rfl;simp only[aj]at k0 k1 k2;have s2:=F2.o.1.1.2.2.2.2;go_wp2_with fail;refine(Hy.o _ F2.o.1.1).mono ?_;rintro e w3 ⟨rfl,hs3⟩;simp only[Option.getD_none]at hs3;have F3:=Aa (F2.o.step hb0 hs3);clear hs3 k0 k1 k2 s2;go_wp2_with fail;refine(Hw.o _ F3.o.1.1).mono ?_;rintro e w4 ⟨rfl,hs4⟩;have F4:=Aa (F3.o.step hb0 hs4);clear hs4;go_wp2_with ((with_reducible refine Ad (op:=⟨none,.store 75 _ _,_,_,_,none⟩) rfl 75 _ _ rfl (w.heap.size+1) 0 [.int .u8 102,.string ⟨#[110,111]⟩,.int .i64 0,.slice none 0 0] ?_ ?_ ?_ ?_ ?_ ?_);rfl;rfl;(exact F4.o.2.2.1);kernel_rfl;(simp[Value.oneCell']);intro w9 HS9)
  have HQ:=HQ.o;rw[HFL.o]at HQ;have hl2:=HL.o;have Z:=J7.fin (t:=t) (N:=N+1) (v:=.mk 102 Kh 0 []) (sl:=.slice none 0 0) (r:=q) F4.o hb0 HS9.o (E9.nil _ _) (by rw[HQ];unfold Kh;cases Aw [110,111] t false<;>rfl)
   (by rw[HQ];unfold Kh;cases Aw [110,111] t false<;>simp) (Es aI aI) hl2 (by unfold Kh at hl2 ⊢;simp[Bi,D7,H9];omega)
  exact aD (v:=.agg (Gv (.mk 102 Kh 0 []) (.slice none 0 0)).toArray) (Ax results99 _ _ (w.heap.size+1) _ _ rfl Z.2 underlying75 rfl aJ) rfl Z.1
 rw[hy]at Hy HFL;unfold Dy at Hy;have hlr:=Hl1.o r hy;have hlr2:t.length=3+r.length:=by rw[hlr];simp[Dy];omega
 clear hy hlr;go_enter func99,ntmps99;go_wp2_with fail;refine(Jg _ _ _).mono ?_;rintro e w2 ⟨rfl,hb2⟩;have F2:=Aa ((J7.init (k:=⟨[],[102],nm⟩) HS.o).post hb2);clear hb2 c2;have k0:=Ab F2.o.2.1 0 rfl;have k1:=Ab F2.o.2.1 1 rfl;have k2:=Ab F2.o.2.1 2 rfl;simp only[aj]at k0 k1 k2;have s2:=F2.o.1.1.2.2.2.2;go_wp2_with fail;refine(Hy.o _ F2.o.1.1).mono ?_;rintro e w3 ⟨rfl,hs3⟩;simp only[Option.getD_some]at hs3;have F3:=Aa (F2.o.step hb0 hs3);clear hs3 k0 k1 k2 s2;go_wp2_with ((with_reducible refine Ad (op:=⟨none,.store 75 _ _,_,_,_,none⟩) rfl 75 _ _ rfl (w.heap.size+1) 0 [.int .u8 102,.string ⟨#[121,101,115]⟩,.int .i64 0,.slice none 0 0] ?_ ?_ ?_ ?_ ?_ ?_);rfl;rfl;(exact F3.o.2.2.1);kernel_rfl;(simp[Value.oneCell']);intro w9 HS9)
 have HQ:=HQ.o;rw[HFL.o]at HQ;have Z:=J7.fin (t:=t) (N:=N+1) (v:=.mk 102 Dy 0 []) (sl:=.slice none 0 0) (r:=q) F3.o hb0 HS9.o (E9.nil _ _) (by rw[HQ];rfl)
  (by rw[HQ];simp) (Es aI aI) aF (by unfold Dy;simp[Bi,D7,H9];omega)
 exact aD (v:=.agg (Gv (.mk 102 Dy 0 []) (.slice none 0 0)).toArray) (Ax results99 _ _ (w.heap.size+1) _ _ rfl Z.2 underlying75 rfl aJ) rfl Z.1
def IvC(w0:World)(b:Nat)(p:Value)(S:List Ty)(N:Nat)(k:Kd):Prop:=
 ∀(t:List UInt8) (bad:Bool) (w:World),Below w0 w0 w->Fv w b p t bad->t.length<=900->(bad=false->t.length<N) ->
  Calls prog 99 #[b,Gy k] w (Kb w b p t N (if bad then none else Al S 1000 N k t))
theorem E9.one{P Q:Nat->Prop}{w:World}{v:Vl}{sl:Value}{T:TypeId}(h:E9 P w sl v.kids)(hQ:∀b,P b->b<w.heap.size->Q b)(hn:Q w.heap.size):
  E9 Q (w.alloc (.cells #[.int .u8 (v.what.toNat:Int),v.text,(v.tag:Int),sl] T)) (.slice (w,0) 1 1) [v]:=by
 have hb:Below w w (w.alloc (.cells #[.int .u8 (v.what.toNat:Int),v.text,(v.tag:Int),sl] T)):=(Ar _ _).alloc (Am _) _;refine .mk (w,0) 1 [(v,sl)] rfl rfl aH ⟨rfl,(show 4<=maxLen by decide),fun _=>⟨w.heap.size,0,rfl,by simp,fun j u hj=>?_⟩⟩ (fun g o _ e=>by injection e with e;injection e with e;subst e;exact hn) (fun x hx=>?_)
 ·rw[World.cell?_alloc_new];simpa [Sl]using hj
 rw[an]at hx;subst hx;exact(h.mono hQ).after hb
theorem Ei(c:UInt8)(t:List UInt8)(bad:Bool):((Aw [c] t bad).getD t).length<=t.length:=eY
theorem Jp{c:UInt8}{t r:List UInt8}{bad:Bool}(h:Aw [c] t bad=some r):r.length+1=t.length:=by
 rw[B6]at h;cases bad with
 |true=>cases h
 |false=>rw[if_neg aI,Ce]at h;subst h;rfl
theorem Qdg(w0:World)(b N:Nat)(p:Value)(S:List Ty)(t:List UInt8)(k:Kd)(w:World)(hw:Below w0 w0 w)(hb:w0.heap.size<=b)(h:Fv w b p t false)(hl:t.length<=900)(hN:t.length<=N)(hN2:N<=2000)(sg:List UInt8)(hs:k.signs=63::sg)(hsl:sg.length<=100)
  (H:IvC w0 b p S N k.part) (q:Option (Vl × List UInt8)) (hq:q=Qbw (Al S 1000 N k.part) t):
  Calls prog 99 #[b,Gy k] w (Kb w b p t (N+1) q):=by
 have HQ:=Aa hq;have HH:=Aa H;have HP:=Aa (fun W=>Ye k W 63 sg hs aF);have HS:=Aa h;have HW:=Aa hw;have hb0:=h.1;have hbn:¬(b=w.heap.size):=aF;have hbn2:¬(b=w.heap.size+1):=aF;have c2:=h.2.2.2.2;have hm:=Ei 43 t false;have Hlt:=Aa (fun r (h:Aw [43] t false=some r)=>Jp h);have Hlt2:=Aa (fun r (h:Aw [45] t false=some r)=>Jp h);have Htk:=Aa (fun W (h:Fv W b p t false)=>Jc b p t [45] false W h aF);have Hwt:=Aa (fun W (h:Fv W b p t false)=>Da b p t [43] false W h aF)
 have HQ2:=Aa (show Qbw (Al S 1000 N k.part) t=(match Aw [45] t false with|some q=>some (.mk 63 [] 0 [],q)|none=>match Aw [43] t false with|none=>none|some r=>match Al S 1000 N k.part r with|some (v,q)=>some (.mk 63 [] 0 [v],q)|none=>none)from by
  rw[B6,B6];rfl)
 generalize Qbw (Al S 1000 N k.part) t=q0 at *;have Hkp:=Aa (rfl:Gy k=Gy k);obtain⟨sg',bs,nm⟩:=k;simp only at hs;subst hs;generalize hkp:(⟨63::sg,bs,nm⟩:Kd).part=kp at *;unfold Gy at HP ⊢;simp only at HP ⊢;clear h hq hw H Hkp hkp;rcases hy:Aw [45] t false with _|r
 ·rw[hy]at Htk HQ2;obtain⟨t1,ht1⟩:∃t1,t1=(Aw [43] t false).getD t:=⟨_,rfl⟩
  obtain⟨b1,hb1⟩:∃b1,b1=(Aw [43] t false).isNone:=⟨_,rfl⟩
  have HQ3:=Aa (show q=if b1 then none else match Al S 1000 N kp t1 with|some (v,q)=>some (.mk 63 [] 0 [v],q)|none=>none from by
   rw[HQ.o,HQ2.o,ht1,hb1];cases Aw [43] t false<;>rfl)
  have HL1:=Aa (show b1=false->t1.length<N from by
   intro h;rw[hb1]at h;cases hr:Aw [43] t false with
   |none=>rw[hr]at h;cases h
   |some r=>have:=Hlt.o r hr;rw[ht1,hr];simp;omega)
  rw[<-ht1]at hm;rw[<-ht1,<-hb1]at Hwt;clear hy ht1 hb1 HQ2 HQ;go_enter func99,ntmps99;go_wp2_with fail;refine(J9 63 sg aF _ _ _).mono ?_;rintro e w2 ⟨rfl,hb2⟩;have F2:=Aa ((J7.init (k:=⟨63::sg,bs,nm⟩) HS.o).post hb2);clear hb2 c2;go_wp2_with fail;refine(Htk.o _ F2.o.1.1).mono ?_;rintro e w3 ⟨rfl,hs3⟩;simp only[Option.getD_none]at hs3;have F3:=Aa (F2.o.step hb0 hs3);clear hs3;go_wp2_with fail;refine(Hwt.o _ F3.o.1.1).mono ?_;rintro e w4 ⟨rfl,hs4⟩;have F4:=Aa (F3.o.step hb0 hs4);clear hs4;have k0:=Ab F4.o.2.1 0 rfl;have k1:=Ab F4.o.2.1 1 rfl;have k2:=Ab F4.o.2.1 2 rfl;simp only[aj]at k0 k1 k2;go_wp2_with fail;refine(HP.o _).mono ?_;rintro e w5 ⟨rfl,hb5⟩;have F5:=Aa (F4.o.post hb5);clear hb5 k0 k1 k2;go_wp2_with fail;refine(HH.o t1 b1 _ (F5.o.1.env HW.o hb) F5.o.1.1 aF HL1.o).mono ?_;rintro e w6 ⟨v,sl,t',rfl,hk,hs6,hx,hB,hl6,hn6⟩;obtain⟨A7,c7,rfl⟩:=hk.form;have F6:=Aa (F5.o.step hb0 hs6);have hz5:=F5.o.2.2.2;have Hk:=Aa hk;have Hx:=Aa hx;have HB:=Aa hB;clear hs6 hk hx hB;unfold Ko;have F7:=Aa (fun o=>F6.o.post ((Ar _ _).alloc (Am _) o));go_wp2_with ((with_reducible refine Ad (op:=⟨none,.store 75 _ _,_,_,_,none⟩) rfl 75 _ _ rfl (w.heap.size+1) 0 [.int .u8 63,a6,.int .i64 0,.slice (w6,0) 1 1] ?_ ?_ ?_ ?_ ?_ ?_);rfl;rfl;(exact(Aa (F7.o _)).o.2.2.1);kernel_rfl;(simp[Value.oneCell']);intro w9 HS9)
  have hz6:=F6.o.2.2.2;have Z:=J7.fin (t:=t) (N:=N+1) (v:=.mk 63 [] 0 [v]) (sl:=.slice (w6,0) 1 1) (r:=q) (F7.o _) hb0 HS9.o (Hk.o.one (fun c hc _=>by omega) aF)
   (by rw[HQ3.o];cases b1 with
    |true=>rfl
    |false=>simp only[ak,if_false];cases Al S 1000 N kp t1 with
     |none=>rfl
     |some y=>rfl)
   (by rw[HQ3.o];cases b1 with
    |true=>simp
    |false=>
     simp only[ak,if_false];have hx2:=Hx.o;simp only[ak,if_false]at hx2;cases hr:Al S 1000 N kp t1 with
     |none=>simp
     |some y=>obtain⟨e1,e2⟩:=hx2 y hr;rintro x hxx;injection hxx with hxx;subst hxx;exact⟨by rw[e1],e2⟩)
   (.mk aI (by simp[Ef];omega) aH (fun x hx=>by rw[an]at hx;subst hx;exact HB.o)) aF (by simp[Bi,D7,H9,As];omega)
  exact aD (v:=.agg (Gv (.mk 63 [] 0 [v]) (.slice (w6,0) 1 1)).toArray) (Ax results99 _ _ (w.heap.size+1) _ _ rfl Z.2 underlying75 rfl aJ) rfl Z.1
 rw[hy]at Htk HQ2;have hlt:=Hlt2.o r hy;clear hy;go_enter func99,ntmps99;go_wp2_with fail;refine(J9 63 sg aF _ _ _).mono ?_;rintro e w2 ⟨rfl,hb2⟩;have F2:=Aa ((J7.init (k:=⟨63::sg,bs,nm⟩) HS.o).post hb2);clear hb2 c2;go_wp2_with fail;refine(Htk.o _ F2.o.1.1).mono ?_;rintro e w3 ⟨rfl,hs3⟩;simp only[Option.getD_some]at hs3;have F3:=Aa (F2.o.step hb0 hs3);clear hs3;go_wp2_with ((with_reducible refine Ad (op:=⟨none,.store 75 _ _,_,_,_,none⟩) rfl 75 _ _ rfl (w.heap.size+1) 0 [.int .u8 63,a6,.int .i64 0,.slice none 0 0] ?_ ?_ ?_ ?_ ?_ ?_);rfl;rfl;(exact F3.o.2.2.1);kernel_rfl;(simp[Value.oneCell']);intro w9 HS9)
 have HQ:=HQ.o;rw[HQ2.o]at HQ;have Z:=J7.fin (t:=t) (N:=N+1) (v:=.mk 63 [] 0 []) (sl:=.slice none 0 0) (r:=q) F3.o hb0 HS9.o (E9.nil _ _) (by rw[HQ];rfl)
  (by rw[HQ];simp) (Es aI aI) aF eM
 exact aD (v:=.agg (Gv (.mk 63 [] 0 []) (.slice none 0 0)).toArray) (Ax results99 _ _ (w.heap.size+1) _ _ rfl Z.2 underlying75 rfl aJ) rfl Z.1
end
theorem Qd5:(prog.info? 75).map (fun i=>(i.zero,i.size,i.bytes))=some (some (.agg #[.int .u8 0,a6,.int .i64 0,.slice none 0 0]),4,56):=aJ
structure Vc(base B:Nat)(W:World)(h0 h1 h2 u rv:Value)(xs:List (Vl × Value)):Prop where
 lt:B<W.heap.size
 bs:base<=W.heap.size
 hB:B<base
 bk:Qi W B
 c0:W.cell? (B,0)=some h0
 c1:W.cell? (B,1)=some h1
 c2:W.cell? (B,2)=some h2
 c3:W.cell? (B,3)=some u
 row:W.ownsRow base 75 4 rv xs.length (xs.flatMap Sl)
 kids:∀x∈xs,E9 (fun c=>base<=c/\rv.ownBlock≠some c) W x.2 x.1.kids
theorem Vc.after{base B:Nat}{W W':World}{h0 h1 h2 u rv:Value}{xs:List (Vl × Value)}(h:Vc base B W h0 h1 h2 u rv xs)(hb:Below W W W'):Vc base B W' h0 h1 h2 u rv xs:=by
 obtain⟨hc,_,hz⟩:=Bx hb;exact⟨hz _ h.lt,aa h.bs hb.size,h.hB,h.bk.belowAt h.lt hb,(hc _ _ h.lt).trans h.c0,(hc _ _ h.lt).trans h.c1,(hc _ _ h.lt).trans h.c2,(hc _ _ h.lt).trans h.c3,Co h.row hb,fun x hx=>(h.kids x hx).after hb⟩
theorem Vc.step{base B b:Nat}{W W':World}{h0 h1 h2 u rv:Value}{xs:List (Vl × Value)}(h:Vc base B W h0 h1 h2 u rv xs)(hg:W.grownBy W' (some b))(hb:b<base)(hne:b≠B):Vc base B W' h0 h1 h2 u rv xs:=by
 have hn:some B≠some b:=fun e=>by injection e with e;omega
 exact⟨a8 h.lt hg.size,aa h.bs hg.size,h.hB,h.bk.grown h.lt hg hn,hg.cell h.c0 hn,hg.cell h.c1 hn,hg.cell h.c2 hn,hg.cell h.c3 hn,
  h.row.kept hg (by
   cases hr:rv.ownBlock with
   |none=>cases rv with
    |slice A a b=>cases A with
     |none=>exact .inl rfl
     |some x=>simp[Value.ownBlock]at hr
    |_=>exact .inl rfl
   |some k=>have:=(h.row.lt k hr).1;exact .inr cb),
  fun x hx=>(h.kids x hx).grown hg fun c hc e=>by injection e with e;omega⟩
theorem Vc.store{base B:Nat}{W:World}{h0 h1 h2 u rv:Value}{xs:List (Vl × Value)}(h:Vc base B W h0 h1 h2 u rv xs):Vc base B (W.setCell ⟨B,3,none⟩ rv) h0 h1 h2 rv rv xs:=by
 have hg:=A0 W B 3 rv;have hf:=h.bk.live 3;refine⟨by simpa using h.lt,by simpa using h.bs,h.hB,h.bk.set _,by simp[go_sem,h.c0],by simp[go_sem,h.c1],by simp[go_sem,h.c2],by simp[go_sem,h.c3,hf],h.row.kept hg ?_,fun x hx=>(h.kids x hx).grown hg fun c hc e=>by injection e with e;have:=h.hB;omega⟩;cases hr:rv.ownBlock with
 |none=>cases rv with
  |slice A a b=>cases A with
   |none=>exact .inl rfl
   |some x=>simp[Value.ownBlock]at hr
  |_=>exact .inl rfl
 |some k=>have:=(h.row.lt k hr).1;have:=h.hB;exact .inr cb
theorem Vc.app{base B:Nat}{W W':World}{h0 h1 h2 u rv rv':Value}{xs:List (Vl × Value)}{x:Vl × Value}(h:Vc base B W h0 h1 h2 u rv xs)(hx:E9 (fun c=>base<=c/\rv.ownBlock≠some c) W x.2 x.1.kids)
  (hown:W'.ownsRow base 75 4 rv' (xs.length+1) (xs.flatMap Sl++Sl x)) (hg:W.grownBy W' rv.ownBlock) (hwh:rv'.ownBlock=rv.ownBlock\/∃k,rv'.ownBlock=some k/\W.heap.size<=k):Vc base B W' h0 h1 h2 u rv' (xs++[x]):=by
 have hn:some B≠rv.ownBlock:=fun e=>eE;refine⟨a8 h.lt hg.size,aa h.bs hg.size,h.hB,h.bk.grown h.lt hg hn,hg.cell h.c0 hn,hg.cell h.c1 hn,hg.cell h.c2 hn,hg.cell h.c3 hn,by simpa using hown,fun y hy=>?_⟩;have hy':E9 (fun c=>base<=c/\rv.ownBlock≠some c) W y.2 y.1.kids:=by
  rcases ad.1 hy with hy|hy
  ·exact h.kids y hy
  rw[an]at hy;subst hy;exact hx
 refine hy'.kept (fun b o v hb _ hv=>hg.cell hv fun e=>hb.2 e.symm) hg.size fun c hc hl=>⟨hc.1,?_⟩
 rcases hwh with e|⟨k,e,hk⟩
 ·rw[e];exact hc.2
 exact j5
theorem Vc.done{base B:Nat}{W:World}{h0 h1 h2 u rv:Value}{xs:List (Vl × Value)}(h:Vc base B W h0 h1 h2 u rv xs)(hl:xs.length<=1000):E9 (fun c=>base<=c) W rv (Av xs):=by
 rcases h.row.2 with⟨rfl,h0⟩|⟨g,cap,cur,rfl,hbg,hh,hnc,hcm,hcs,htk⟩
 ·obtain rfl:xs=[]:=List.eq_nil_of_length_eq_zero h0;exact E9.nil _ _
 refine .mk (g,0) cap xs rfl rfl hl ⟨Gk Qec xs,by unfold maxLen;omega,fun hn=>⟨g,0,rfl,(h.row.lt g rfl).2,fun j u hu=>?_⟩⟩ (fun g' o _ e=>by injection e with e;injection e with e;subst e;exact hbg) fun x hx=>(h.kids x hx).mono fun c hc _=>hc.1;have:=h.row.cells (g:=g) rfl j u hu;have e1:(⟨g,0,none⟩:Addr).add j=⟨g,0+j,none⟩:=bn;rwa [e1]at this
theorem Kt{w:World}{base k n m c:Nat}{e:TypeId}{A:Option Addr}{xs:List Value}(h:w.ownsRow base e k (.slice A m c) n xs):m=n:=by
 rcases h.2 with⟨e,h0⟩|⟨g,cap,cur,e,_⟩
 ·injection e with _ e1 e2;omega
 injection e with _ e1 e2
theorem J7.app{w W W':World}{b:Nat}{p:Value}{k:Kd}{t:List UInt8}{bad:Bool}{row:Option Nat}(h:J7 w b p k t bad W)(hb:b<w.heap.size)(hg:W.grownBy W' row)(hr:∀k,row=some k->w.heap.size+2<=k):J7 w b p k t bad W':=by
 have hn:∀c,c<w.heap.size+2->some c≠row:=fun c hc e=>by have:=hr c e.symm;omega
 obtain⟨⟨⟨h0,h1,h2,h3,h4⟩,hg0⟩,k1,k2,k3⟩:=h
 exact⟨⟨⟨a8 h0 hg.size,h1.grown h0 hg (hn b aF),hg.cell h2 (hn b aF),hg.cell h3 (hn b aF),hg.cell h4 (hn b aF)⟩,⟨hg.os.trans hg0.os,hg.tape.trans hg0.tape,hg.output.trans hg0.output,aa hg0.size hg.size,fun k hk hne=>(hg.block k (a8 hk hg0.size) (hn k aF)).trans (hg0.block k hk hne)⟩⟩,
  Gb k1 hg (hn _ aF),Gl k2 hg k3 (hn _ aF),a8 k3 hg.size⟩
theorem J7.put{w W:World}{b B o:Nat}{p:Value}{k:Kd}{t:List UInt8}{bad:Bool}(h:J7 w b p k t bad W)(hb:b<w.heap.size)(hB:w.heap.size+2<=B)(v:Value):J7 w b p k t bad (W.setCell ⟨B,o,none⟩ v):=
 h.app hb (A0 W B o v) fun k e=>by injection e with e;omega
theorem Qd2(x:Vl × Value)(h:x.2.oneCell'=true):∀u∈Sl x,u.oneCell'=true:=by
 intro u hu;simp[Sl]at hu;rcases hu with rfl|rfl|rfl|rfl
 ·rfl
 ·rfl
 ·rfl
 exact h
def Qk(vs:List Vl):Option (List Vl × List UInt8)->Option (List Vl × List UInt8)
 |some (us,z)=>some (vs++us,z)
 |none=>none
def LI(K:List UInt8->Option (Vl × List UInt8))(t1:List UInt8)(b1:Bool)(vs:List Vl)(tt:List UInt8):Prop:=
 (b1=true->vs=[])/\(b1=false->Cq K 1000 t1=Qk vs (Cq K (1000 - vs.length) tt))/\Ef (vs.map Bi)+tt.length<=t1.length/\∀x∈vs,Bd x
def LE(K:List UInt8->Option (Vl × List UInt8))(t1:List UInt8)(b1:Bool)(vs:List Vl)(tt:List UInt8)(bb:Bool)(N:Nat):Prop:=
 (if b1 then none else Cq K 1000 t1)=(if bb then none else match Aq 93 tt with|some z=>some (vs,z)|none=>none)/\Ef (vs.map Bi)+tt.length<=t1.length+8*N+1/\∀x∈vs,Bd x
theorem LI.init(K:List UInt8->Option (Vl × List UInt8))(t1:List UInt8)(b1:Bool):LI K t1 b1 [] t1:=
 ⟨fun _=>rfl,fun _=>by cases h:Cq K 1000 t1<;>simp[Qk,h],by simp[Ef],by simp⟩
theorem Ky(a b:List (List UInt8)):Ef (a++b)=Ef a+Ef b:=eV
theorem LI.len{K:List UInt8->Option (Vl × List UInt8)}{t1 tt:List UInt8}{b1:Bool}{vs:List Vl}(h:LI K t1 b1 vs tt):vs.length+tt.length<=t1.length:=by
 have h1:=Qeg (vs.map Bi);have h2:=h.2.2.1;simp at h1;omega
theorem LI.step{K:List UInt8->Option (Vl × List UInt8)}{t1 tt t' t'':List UInt8}{vs:List Vl}{v:Vl}(h:LI K t1 false vs tt)(hK:K tt=some (v,t'))(hg:tt.length=(Bi v).length+t'.length)(hc:Aq 44 t'=some t'')(hB:Bd v)(hl:t1.length<=900):LI K t1 false (vs++[v]) t'':=by
 have hlen:=h.len;obtain⟨_,h2,h3,h4⟩:=h;have e:t'=44::t'':=Ce.1 hc;refine⟨fun h=>Bool.noConfusion h,fun _=>?_,?_,?_⟩
 ·rw[h2 rfl];obtain⟨m,hm⟩:∃m,1000 - vs.length=m+1:=⟨999 - vs.length,by omega⟩
  rw[hm,show 1000 - (vs++[v]).length=m by simp;omega];conv=>lhs;unfold Cq
  rw[hK];simp only[hc];cases Cq K m t''<;>simp[Qk]
 ·rw[ax,Ky];simp[Fw,Ef]at h3 ⊢;rw[e]at hg;simp at hg;omega
 intro x hx;rcases ad.1 hx with hx|hx
 ·exact h4 x hx
 rw[an]at hx;subst hx;exact hB
theorem LI.brk{K:List UInt8->Option (Vl × List UInt8)}{t1 tt t':List UInt8}{vs:List Vl}{v:Vl}{N:Nat}(h:LI K t1 false vs tt)(hx:∀x,K tt=some x->v=x.1/\t'=x.2)(hc:Aw [44] t' (K tt).isNone=none)(hB:Bd v)(hl:t1.length<=900)
  (hn:(Bi v).length+t'.length<=tt.length+8*N):LE K t1 false (vs++[v]) t' (K tt).isNone N:=by
 have hlen:=h.len;obtain⟨_,h2,h3,h4⟩:=h;refine⟨?_,?_,?_⟩
 ·rw[if_neg aI,h2 rfl];obtain⟨m,hm⟩:∃m,1000 - vs.length=m+1:=⟨999 - vs.length,by omega⟩
  rw[hm];unfold Cq;cases hk:K tt with
  |none=>rfl
  |some y=>
   obtain⟨e1,e2⟩:=hx y hk;obtain⟨y1,y2⟩:=y;simp only at e1 e2;subst e1 e2;rw[hk,B6]at hc;simp only[Option.isNone_some,ak,if_false]at hc ⊢;rw[hc];simp only;cases Aq 93 t'<;>simp[Qk]
 ·rw[ax,Ky];simp[Fw,Ef]at h3 ⊢;omega
 intro x hx;rcases ad.1 hx with hx|hx
 ·exact h4 x hx
 rw[an]at hx;subst hx;exact hB
theorem LI.bad{K:List UInt8->Option (Vl × List UInt8)}{t1 tt:List UInt8}{vs:List Vl}{N:Nat}(h:LI K t1 true vs tt):LE K t1 true vs tt true N:=⟨by simp,by have:=h.2.2.1;omega,h.2.2.2⟩
theorem LE.fin{K:List UInt8->Option (Vl × List UInt8)}{t t1 tt:List UInt8}{b1 bb:Bool}{vs:List Vl}{N:Nat}(h:LE K t1 b1 vs tt bb N)(h1:t1=(Aw [91] t false).getD t)(hb1:b1=(Aw [91] t false).isNone)(h2:Aw [93] t1 b1=none):
  S6 K 1000 t=if (Aw [93] tt bb).isNone || decide (20<vs.length)then none else some (.mk 91 [] 0 vs,(Aw [93] tt bb).getD tt):=by
 obtain⟨h3,_,_⟩:=h;rw[B6]at h1 hb1 h2 ⊢;simp only[ak,if_false]at h1 hb1;unfold S6;cases hy:Aq 91 t with
 |none=>
  rw[hy]at hb1;simp only[Option.isNone_none]at hb1;subst hb1;simp only[if_true]at h3;simp only;cases bb with
  |true=>simp
  |false=>
   simp only[ak,if_false]at h3 ⊢;cases hz:Aq 93 tt with
   |none=>simp
   |some z=>rw[hz]at h3;cases h3
 |some r=>
  rw[hy]at h1 hb1;simp only[Option.isNone_some,Option.getD_some]at h1 hb1;subst h1 hb1;simp only[ak,if_false]at h2 h3;simp only;rw[h2];simp only;rw[h3];cases bb with
  |true=>simp
  |false=>
   simp only[ak,if_false];cases Aq 93 tt with
   |none=>simp
   |some z=>
    simp only[Option.isNone_some,Bool.false_or,decide_eq_true_eq,Option.getD_some];by_cases h:vs.length<=20
    ·rw[if_pos h,if_neg aF]
    rw[if_neg h,if_pos aF]
end Go.Proofs.YtgfmljfjgohdcaaGreatDoor
