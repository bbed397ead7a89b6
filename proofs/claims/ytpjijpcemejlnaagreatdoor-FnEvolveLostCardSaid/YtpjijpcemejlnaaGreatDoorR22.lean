/- Texts joined. Conditions: as each theorem names them. -/
import Derived.BigRegion
import Derived.BigQuiet
import Derived.Deep.QuietTactic
import Derived.Test.YtpjijpcemejlnaaGreatDoorR20
set_option maxRecDepth 100000
set_option maxHeartbeats 32000000
set_option linter.unusedVariables false
set_option linter.unusedSimpArgs false
namespace Go.Proofs.YtpjijpcemejlnaaGreatDoor
open Go.RowKit Go.Proofs.Tryz
def Mf(x:Vl × Value):List Value:=[.int .u8 (x.1.what.toNat:Int),x.1.text,(x.1.tag:Int),x.2]
def Ev(v:Vl)(sl:Value):Value:=.agg #[.int .u8 (v.what.toNat:Int),v.text,(v.tag:Int),sl]
theorem Qf0(x:Vl × Value):(Mf x).length=4:=rfl
def Bi(xs:List (Vl × Value)):List Vl:=xs.map (·.1)
inductive Ee(P:Nat->Prop)(w:World):Value->List Vl->Prop
 |mk {v:Value} {ks:List Vl} (A:Option Addr) (c:Nat) (xs:List (Vl × Value)) (hv:v=.slice A xs.length c) (hk:ks=Bi xs) (hl:xs.length<=1000) (hr:Bx w A (xs.length*4) (xs.flatMap Mf))
   (hP:∀g o,0<xs.length->A=some ⟨g,o,none⟩->P g) (h:∀x∈xs,Ee P w x.2 x.1.kids):Ee P w v ks
theorem Ee.kept{P Q:Nat->Prop}{w w':World}{v:Value}{ks:List Vl}(h:Ee P w v ks)(hc:∀b o u,P b->b<w.heap.size->w.cell? ⟨b,o,none⟩=some u->w'.cell? ⟨b,o,none⟩=some u)
  (hz:w.heap.size<=w'.heap.size) (hQ:∀b,P b->b<w.heap.size->Q b):Ee Q w' v ks:=by
 induction h with
 |mk A c xs hv hk hl hr hP h ih=>
  refine .mk A c xs hv hk hl ⟨hr.1,hr.2.1,fun hn=>?_⟩ (fun g o hn e=>?_) ih
  ·obtain⟨b,off,e,hlt,hcs⟩:=hr.2.2 hn;exact⟨b,off,e,by omega,fun j u hu=>hc b _ u (hP b off aI e) hlt (hcs j u hu)⟩
  obtain⟨b,off,e2,hlt,_⟩:=hr.2.2 aI;rw[e]at e2;injection e2 with e2;injection e2 with e2 _ _;subst e2;exact hQ g (hP g o hn e) hlt
theorem Ee.after{P:Nat->Prop}{w w':World}{v:Value}{ks:List Vl}(h:Ee P w v ks)(hb:Below w w w'):Ee P w' v ks:=
 h.kept (fun b o u _ hl hu=>(hb.cell (p:=⟨b,o,none⟩) hl).trans hu) hb.size fun _ h _=>h
theorem Ee.mono{P Q:Nat->Prop}{w:World}{v:Value}{ks:List Vl}(h:Ee P w v ks)(hQ:∀b,P b->b<w.heap.size->Q b):Ee Q w v ks:=h.kept (fun _ _ _ _ _ hu=>hu) (Ao _) hQ
theorem Ee.grown{P:Nat->Prop}{w w':World}{v:Value}{ks:List Vl}{row:Option Nat}(h:Ee P w v ks)(hg:w.grownBy w' row)(hne:∀b,P b->some b≠row):Ee P w' v ks:=
 h.kept (fun b o u hp _ hu=>hg.cell hu (hne b hp)) hg.size fun _ h _=>h
theorem Ee.nil(P:Nat->Prop)(w:World):Ee P w (.slice none 0 0) []:=.mk none 0 [] rfl rfl aN ⟨rfl,ah _,fun h=>absurd h aN⟩ (fun _ _ h=>absurd h aN) aN
theorem Ee.form{P:Nat->Prop}{w:World}{v:Value}{ks:List Vl}(h:Ee P w v ks):∃A c,v=.slice A ks.length c:=by
 obtain⟨A,c,xs,rfl,rfl,_,_,_,_⟩:=h;exact⟨A,c,by simp[Bi]⟩
theorem Ee.at_{w:World}{A:Option Addr}{xs:List (Vl × Value)}(hr:Bx w A (xs.length*4) (xs.flatMap Mf)){i:Nat}(hi:i<xs.length):
  ∃b off,A=some ⟨b,off,none⟩/\b<w.heap.size/\w.cell? ⟨b,off+i*4,none⟩=some (.int .u8 (xs[i].1.what.toNat:Int))/\w.cell? ⟨b,off+i*4+1,none⟩=some (.string ⟨xs[i].1.text.toArray⟩) /\
   w.cell? ⟨b,off+i*4+2,none⟩=some (.int .i64 (xs[i].1.tag:Int))/\w.cell? ⟨b,off+i*4+3,none⟩=some xs[i].2:=by
 obtain⟨b,off,e,hlt,hc⟩:=hr.elem Qf0 aL hi;refine⟨b,off,e,hlt,?_,?_,?_,?_⟩
 ·exact kx
 ·exact jS
 ·exact k8
 have:=hc 3 _ rfl;simpa [Nat.add_assoc]using this
section
attribute [local go_sem] Qm0 Ql8 Qlz Qj6 ByteArray.mk_append_mk
def Ja(w:World)(b:Nat)(p:Value)(t:List UInt8)(bad:Bool):Prop:=b<w.heap.size/\Qa w b/\w.cell? (b,0)=some p/\w.cell? (b,1)=t/\w.cell? (b,2)=some (.bool bad)
theorem Qa.live{w:World}{b:Nat}(h:Qa w b)(o:Nat):w.frozen? ⟨b,o,none⟩=false:=by
 obtain⟨cs,t,h⟩:=h;simp[World.frozen?,h]
theorem Ja.far{w w':World}{b:Nat}{p:Value}{t:List UInt8}{bad:Bool}(h:Ja w b p t bad){B:Nat}(hb:Below B w w')(hB:b<B):Ja w' b p t bad:=by
 obtain⟨h0,h1,h2,h3,h4⟩:=h;exact⟨ad h0 hb.size,h1.belowAt hB hb,(hb.cell (p:=⟨b,0,none⟩) hB).trans h2,(hb.cell (p:=⟨b,1,none⟩) hB).trans h3,(hb.cell (p:=⟨b,2,none⟩) hB).trans h4⟩
theorem Ja.drew{w:World}{b:Nat}{p:Value}{t:List UInt8}{bad:Bool}(h:Ja w b p t bad)(k:Nat):Ja (w.drewN k) b p t bad:=h.far (below_drewN (Am w.heap.size w) k) h.1
theorem Ja.setBad{w:World}{b:Nat}{p:Value}{t:List UInt8}{bad:Bool}(h:Ja w b p t bad)(x:Bool):Ja (w.setCell ⟨b,2,none⟩ (.bool x)) b p t x:=by
 obtain⟨h0,h1,h2,h3,h4⟩:=h;have hf:=h1.live 2;exact⟨by simpa using h0,h1.set _,by simp[go_sem,h2],by simp[go_sem,h3],by simp[go_sem,h4,hf]⟩
theorem Ja.setText{w:World}{b:Nat}{p:Value}{t:List UInt8}{bad:Bool}(h:Ja w b p t bad)(x:List UInt8):Ja (w.setCell ⟨b,1,none⟩ x) b p x bad:=by
 obtain⟨h0,h1,h2,h3,h4⟩:=h;have hf:=h1.live 1;exact⟨by simpa using h0,h1.set _,by simp[go_sem,h2],by simp[go_sem,h3,hf],by simp[go_sem,h4]⟩
theorem Qe1(w:World)(a:Addr)(v:Value):w.grownBy (w.setCell a v) (some a.block):=
 ⟨rfl,rfl,rfl,by simp,fun k _ hk=>Go.heap_setCell_other _ _ _ _ (fun e=>hk (by rw[e]))⟩
theorem Al(w:World)(b o:Nat)(v:Value):w.grownBy (w.setCell ⟨b,o,none⟩ v) (some b):=Qe1 w ⟨b,o,none⟩ v
theorem Bq(b:Nat):∀(vs:List Value) (o:Nat) (w:World),w.grownBy (w.setCells b o vs) (some b)
 |[],_,w=>World.grownBy.refl _ _
 |v::r,o,w=>(Al w b o v).trans (Bq b r (o+1) _)
theorem Cf{w w':World}(h:Below w w w')(row:Option Nat):w.grownBy w' row:=⟨h.os,h.tape,h.output,h.size,fun k hk _=>h.block k hk⟩
theorem Qbr(p s:List UInt8):Gk p s=if p.isPrefixOf s=true then some (s.drop p.length)else none:=by
 by_cases h:p.isPrefixOf s=true
 ·rw[if_pos h];rw[List.isPrefixOf_iff_prefix]at h;obtain⟨t,rfl⟩:=h;rw[Gz];simp
 rw[if_neg h];cases e:Gk p s with
 |none=>rfl
 |some r=>
  rw[Gz]at e;subst e;exact absurd aN h
theorem Qha(c:UInt8)(s:List UInt8):Gk [c] s=Av c s:=by
 unfold Gk;cases Av c s<;>rfl
def cpV(s:List UInt8):Option (List UInt8)->Value
 |some r=>.tuple #[r,.bool true]
 |none=>.tuple #[s,.bool false]
theorem Ym(s p:List UInt8)(w:World)(hs:s.length<=4000000):
  Calls prog 174 #[s,p] w fun e w'=>e=.returned (cpV s (Gk p s))/\∃k,w'=w.drewN k:=by
 have HW:=Aa (Qbr p s);have Hp:=Aa (fun W=>Zz s p W);by_cases h:p.isPrefixOf s=true
 ·have HW2:=Aa (HW.o.trans (if_pos h));have hl:p.length<=s.length:=by rw[List.isPrefixOf_iff_prefix]at h;exact h.length_le
  have h1:(p.length:Int)<=(s.length:Int):=aI;have h2:(0:Int)<=(p.length:Int):=aI;rw[h]at Hp;clear h HW;go_enter func174,ntmps174;go_wp2_with fail;refine(Hp.o _).mono ?_;rintro e w1 ⟨rfl,rfl⟩;go_wp2_with fail;go_ret2;exact⟨by rw[HW2.o];rfl,0,rfl⟩
 have HW2:=Aa (HW.o.trans (if_neg h));have h':p.isPrefixOf s=false:=Bool.eq_false_iff.2 h;rw[h']at Hp;clear h h' HW;go_enter func174,ntmps174;go_wp2_with fail;refine(Hp.o _).mono ?_;rintro e w1 ⟨rfl,rfl⟩;go_wp2_with fail;go_ret2;exact⟨by rw[HW2.o];rfl,0,rfl⟩
theorem Z8(s p:List UInt8)(w:World)(hs:s.length<=4000000):
  Calls prog 141 #[s,p] w fun e w'=>e=.returned (cpV s (Gk p s))/\∃k,w'=w.drewN k:=by
 have Hp:=Aa (fun W=>Ym s p W hs);cases hw:Gk p s with
 |none=>
  rw[hw]at Hp;clear hw;go_enter func141,ntmps141;go_wp2_with fail;refine(Hp.o _).mono ?_;rintro e w1 ⟨rfl,k,rfl⟩;unfold cpV;go_wp2_with fail;go_ret2;exact⟨rfl,k,rfl⟩
 |some r=>
  rw[hw]at Hp;clear hw;go_enter func141,ntmps141;go_wp2_with fail;refine(Hp.o _).mono ?_;rintro e w1 ⟨rfl,k,rfl⟩;unfold cpV;go_wp2_with fail;go_ret2;exact⟨rfl,k,rfl⟩
def Dv(w:World)(b:Nat)(p:Value)(t:List UInt8)(bad:Bool)(w':World):Prop:=Ja w' b p t bad/\w.grownBy w' (some b)
def Bk(lead t:List UInt8)(bad:Bool):Option (List UInt8):=if bad then none else Gk lead t
theorem Kh(b:Nat)(p:Value)(t lead:List UInt8)(bad:Bool)(w:World)(h:Ja w b p t bad)(hl:t.length<=4000000):
  Calls prog 100 #[b,lead] w fun e w'=>
   e=.returned (.bool (Bk lead t bad).isSome)/\Dv w b p ((Bk lead t bad).getD t) bad w':=by
 have Hp:=Aa (fun W=>Z8 t lead W hl);have HT:=@Aa (Bk lead t bad=if bad then none else Gk lead t) rfl;have HS:=Aa h;obtain⟨h0,h1,h2,h3,h4⟩:=h;have hfz:=h1.live 1;clear h1;cases hw:Gk lead t with
 |none=>
  have HT2:=Aa (show Bk lead t bad=none by rw[HT.o,hw];cases bad<;>rfl);rw[hw]at Hp;clear hw HT;go_enter func100,ntmps100;go_wp2_with fail;refine(Hp.o _).mono ?_;rintro e w1 ⟨rfl,k,rfl⟩;unfold cpV;go_wp2_with fail;go_ret;exact⟨by rw[HT2.o];rfl,by rw[HT2.o];exact⟨HS.o.drew k,Cf (below_drewN (Am _ _) k) _⟩⟩
 |some r=>
  rw[hw]at Hp;cases bad with
  |true=>
   have HT2:=@Aa (Bk lead t true=none) rfl;clear hw HT;go_enter func100,ntmps100;go_wp2_with fail;refine(Hp.o _).mono ?_;rintro e w1 ⟨rfl,k,rfl⟩;unfold cpV;go_wp2_with fail;go_ret;exact⟨by rw[HT2.o];rfl,by rw[HT2.o];exact⟨HS.o.drew k,Cf (below_drewN (Am _ _) k) _⟩⟩
  |false=>
   have HT2:=@Aa (Bk lead t false=some r) (HT.o.trans hw);clear hw HT;go_enter func100,ntmps100;go_wp2_with fail;refine(Hp.o _).mono ?_;rintro e w1 ⟨rfl,k,rfl⟩;unfold cpV;go_wp2_with fail;go_ret;exact⟨by rw[HT2.o];rfl,by rw[HT2.o];exact⟨(HS.o.drew k).setText r,(Cf (below_drewN (Am _ _) k) _).trans (Al _ _ _ _)⟩⟩
theorem Dp(b:Nat)(p:Value)(t lead:List UInt8)(bad:Bool)(w:World)(h:Ja w b p t bad)(hl:t.length<=4000000):
  Calls prog 99 #[b,lead] w fun e w'=>
   e=.returned (.tuple #[])/\Dv w b p ((Bk lead t bad).getD t) (Bk lead t bad).isNone w':=by
 have Hp:=Aa (Kh b p t lead bad w h hl);have HB:=Aa (show ∀r,Bk lead t bad=some r->bad=false by intro r h;cases bad;rfl;cases h);generalize Bk lead t bad=o at Hp HB ⊢;cases o with
 |some r=>
  obtain rfl:=HB.o r rfl;go_enter func99,ntmps99;go_wp2_with fail;refine Hp.o.mono ?_;rintro e w1 ⟨rfl,hs⟩;have HS:=Aa hs;clear hs;go_wp2_with fail;go_end0
  exact⟨rfl,HS.o⟩
 |none=>
  go_enter func99,ntmps99;go_wp2_with fail;refine Hp.o.mono ?_;rintro e w1 ⟨rfl,hs⟩;have HS:=Aa hs;obtain⟨⟨h0,h1,_,_,h4⟩,_⟩:=hs;have hfz:=h1.live 2;clear h1;go_wp2_with fail;go_end0
  exact⟨rfl,HS.o.1.setBad true,HS.o.2.trans (Al _ _ _ _)⟩
def Qiv:List UInt8:=[48,49,50,51,52,53,54,55,56,57]
theorem Qjt(c:UInt8):Qiv.contains c=Bm c:=by
 have:=Re (p:=fun c=>Qiv.contains c == Bm c) fX c;simpa using this
theorem Qiy(s:List UInt8):s.dropWhile (Qiv.contains ·)=s.dropWhile Bm:=by congr 1;funext c;exact Qjt c
theorem Qje(s:List UInt8):s.dropWhile (Qe4.contains ·)=s.dropWhile Cn:=by congr 1;funext c;exact Qcf c
theorem Tg(p:UInt8->Bool)(s:List UInt8):s.take (s.length - (s.dropWhile p).length)=s.takeWhile p/\(s.dropWhile p).length<=s.length:=by
 have e:s.takeWhile p++s.dropWhile p=s:=List.takeWhile_append_dropWhile;have hl:(s.takeWhile p).length+(s.dropWhile p).length=s.length:=by rw[<-ai,e]
 refine⟨?_,by omega⟩;conv=>lhs;arg 2;rw[<-e]
 rw[show s.length - (s.dropWhile p).length=(s.takeWhile p).length by omega,List.take_left]
def J2(t:List UInt8):Nat:=(Cw (t.takeWhile Bm)).getD 0
def Jg(m:Nat)(t:List UInt8):Bool:=match Cw (t.takeWhile Bm)with|some n=>decide (n<=m)|none=>false
theorem Qlb(m:Nat)(t:List UInt8):pnV (t.takeWhile Bm) m=.tuple #[.int .i64 (J2 t:Int),.bool (Jg m t)]:=by
 unfold pnV J2 Jg;cases Cw (t.takeWhile Bm)<;>rfl
theorem Ja.grow{w w':World}{b:Nat}{p:Value}{t:List UInt8}{bad:Bool}(h:Ja w b p t bad)(hb:Below w w w'):Ja w' b p t bad:=h.far hb h.1
theorem Qi(b m:Nat)(p:Value)(t:List UInt8)(bad:Bool)(w:World)(h:Ja w b p t bad)(hl:t.length<=4000000)(hm:m<=999999):
  Calls prog 143 #[b,.int .i64 m] w fun e w'=>
   e=.returned (.int .i64 (J2 t:Int))/\Dv w b p (t.dropWhile Bm) (bad || !Jg m t) w':=by
 have Htl:=Aa (fun W=>Pe t Qiv W aL aL);simp only[Qiy]at Htl;have Hpn:=Aa (fun W=>Jl (t.takeWhile Bm) m W (by have:=(Tg Bm t).1;have h2:=List.length_take_le (t.length - (t.dropWhile Bm).length) t;rw[this]at h2;omega) hm);rw[Qlb]at Hpn;obtain⟨htk,hdl⟩:=Tg Bm t;have Htk:=Aa htk;unfold Qiv at Htl;have HS:=Aa h;have kw:IntKind.i64.wrap ((t.length:Int) - ((t.dropWhile Bm).length:Int))=(t.length:Int) - ((t.dropWhile Bm).length:Int):=IntWalk.i64_in _ aI;have k1:(0:Int)<=(t.length:Int) - ((t.dropWhile Bm).length:Int):=aI;have k2:(t.length:Int) - ((t.dropWhile Bm).length:Int)<=(t.length:Int):=aI;have k3:((t.length:Int) - ((t.dropWhile Bm).length:Int)).toNat=t.length - (t.dropWhile Bm).length:=aI;generalize J2 t=n at *;generalize Jg m t=ok at *;generalize t.takeWhile Bm=a at *;generalize t.dropWhile Bm=r at *;obtain⟨h0,h1,h2,h3,h4⟩:=h;clear htk h1;go_enter func143,ntmps143;go_wp2_with fail;refine(Htl.o _).mono ?_;rintro e w1 ⟨rfl,hb1⟩;have HS1:=Aa (HS.o.grow hb1);have Hb1:=Aa hb1;have C1:=Aa ((hb1.cell (p:=⟨b,1,none⟩) h0).trans h3);have hz1:b<w1.heap.size:=by have:=hb1.size;omega
 clear hb1 HS h2 h3 h4;go_wp2_with fail;refine Gd [14,15,16,17,18,19,20,21,22,23,24,25,26,27,28,13,29,30,6,7]
  (fun ix v W=>match ix with|0=>v=b|1=>v=b|2=>v=(b,1)|3=>v=t|4=>v=b|5=>v=b|6=>v=(b,1)|7=>v=t|8=>v=(t.length:Int)|9=>v=r|10=>v=(r.length:Int)|11=>v=.int .i64 ((t.length:Int) - (r.length:Int))|12=>v=a|13=>v=(m:Int)|14=>v=.tuple #[(n:Int),.bool ok]|15=>v=.tuple #[(n:Int),.bool ok]|16=>v=(n:Int)|17=>v=.bool ok|18=>v=(n:Int)|19=>v=.bool ok|_=>True)
  (fun L U W=>∃k,W=w1.drewN k) (⟨1,rfl⟩) ?_ ?_
 ·repeat (first|exact Ai.nil|(refine Ai.cons ?_ ?_;rotate_left))
  all_goals
   rintro L U W hL hpre HR Hdep K hK;obtain⟨k,hk⟩:=HR.o;have c1:W.cell? (b,1)=t:=by rw[hk];exact C1.o
   clear hk;first|(simp[Region.binds]at hpre;done)|simp[Region.binds]at hpre|clear hpre
  iterate 11
   ·exact ii
  ·exact jU
  ·exact kq
  ·exact ii
  ·go_simp;refine(Hpn.o W).mono ?_;rintro e w' ⟨rfl,rfl⟩;exact lJ
  iterate 5
   ·exact ii
 rintro L U W hL hφ hR;have e18:U 18=(n:Int):=hφ 18 aL;have e19:U 19=.bool ok:=hφ 19 aL;simp only[e18,e19];clear hφ;obtain⟨k,rfl⟩:=hR;clear hL;have HS2:=Aa (HS1.o.drew k);have Hb2:=Aa (below_drewN Hb1.o k);obtain⟨q0,q1,_,_,_⟩:=HS2.o;have hf1:=q1.live 1;have hf2:=q1.live 2;clear q1;have j2:=HS2.o.2.2.2.1;have j3:=HS2.o.2.2.2.2;cases ok with
 |true=>
  go_wp2_with fail;go_ret;refine⟨rfl,by simpa using HS2.o.setText r,(Cf Hb2.o _).trans (Al _ _ _ _)⟩
 |false=>
  go_wp2_with fail;go_ret;refine⟨rfl,by simpa using(HS2.o.setBad true).setText r,((Cf Hb2.o _).trans (Al _ _ _ _)).trans (Al _ _ _ _)⟩
def Qlp(t:List UInt8)(bad:Bool)(b:Nat)(p:Value)(w:World)(e:Ending)(w':World):Prop:=
 ∃(x t':List UInt8) (bad':Bool),e=.returned x/\Dv w b p t' bad' w'/\(if bad then none else N6 t)=(if bad' then none else some (x,t'))/\x.length+t'.length<=t.length
theorem Qy{c:UInt8}{t:List UInt8}:((Av c t).getD t).length<=t.length:=by
 cases h:Av c t with
 |none=>exact Ao _
 |some r=>rw[Cs]at h;subst h;simp
theorem Co(c:UInt8)(t:List UInt8)(bad:Bool):Bk [c] t bad=if bad then none else Av c t:=by unfold Bk;rw[Qha]
theorem Qde(t t1 t3:List UInt8)(bad b1 b2 b3:Bool)(h1:t1=(Bk [39] t bad).getD t)(hb1:b1=(Bk [39] t bad).isNone)(h3:t3=(Bk [39] (t1.dropWhile Cn) b1).getD (t1.dropWhile Cn))(hb2:b2=(Bk [39] (t1.dropWhile Cn) b1).isNone)
  (hb3:b3=(b2 || decide (12<(t1.takeWhile Cn).length))):
  (if bad then none else N6 t)=(if b3 then none else some (t1.takeWhile Cn,t3))/\(t1.takeWhile Cn).length+t3.length<=t.length:=by
 have e:(t1.takeWhile Cn).length+(t1.dropWhile Cn).length=t1.length:=by rw[<-ai,List.takeWhile_append_dropWhile]
 rw[Co]at h1 hb1 h3 hb2;subst h1 hb1 h3 hb2 hb3;constructor
 ·cases bad with
  |true=>simp
  |false=>
   unfold N6;simp only[ap,if_false];cases Av 39 t with
   |none=>simp
   |some r=>
    simp only[Option.getD_some,Option.isNone_some,ap,if_false];cases Av 39 (r.dropWhile Cn)with
    |none=>simp
    |some q=>
     simp only[Option.getD_some,Option.isNone_some,Bool.false_or,decide_eq_true_eq];by_cases h:(r.takeWhile Cn).length<=12
     ·rw[if_pos h,if_neg aI]
     rw[if_neg h,if_pos aI]
 have k1:((if bad=true then none else Av 39 t).getD t).length<=t.length:=by cases bad;exact Qy;exact Ao _
 generalize (if bad=true then none else Av 39 t)=o at *;have k2:((if o.isNone=true then none else Av 39 ((o.getD t).dropWhile Cn)).getD ((o.getD t).dropWhile Cn)).length<=((o.getD t).dropWhile Cn).length:=by cases o.isNone;exact Qy;exact Ao _
 omega
theorem Qfr(b:Nat)(p:Value)(t:List UInt8)(bad:Bool)(w:World)(h:Ja w b p t bad)(hl:t.length<=4000000):
  Calls prog 144 #[b] w (Qlp t bad b p w):=by
 have Hq:=Aa (Qde t);have Hw1:=Aa (fun W (h:Ja W b p t bad)=>Dp b p t [39] bad W h hl);have hk1:((Bk [39] t bad).getD t).length<=t.length:=gK;have HS:=Aa h;clear h;obtain⟨t1,ht1⟩:∃t1,t1=(Bk [39] t bad).getD t:=⟨_,rfl⟩
 obtain⟨b1,hb1⟩:∃b1,b1=(Bk [39] t bad).isNone:=⟨_,rfl⟩
 rw[<-ht1]at hk1;have Hq:=Aa (fun t3 b2 b3=>Hq.o t1 t3 bad b1 b2 b3 ht1 hb1);rw[<-ht1,<-hb1]at Hw1;clear ht1 hb1;have Htl:=Aa (fun W=>Pe t1 Qe4 W aL aL);simp only[Qje]at Htl;unfold Qe4 at Htl;obtain⟨htk,hdl⟩:=Tg Cn t1;have Htk:=Aa htk;have Hw2:=Aa (fun W (h:Ja W b p (t1.dropWhile Cn) b1)=>Dp b p (t1.dropWhile Cn) [39] b1 W h aI);clear htk;go_enter func144,ntmps144;go_wp2_with fail;refine(Hw1.o _ HS.o).mono ?_;rintro e w1 ⟨rfl,hs1,hg1⟩;have HS1:=Aa hs1;have Hg1:=Aa hg1;obtain⟨z1,_,_,c1,_⟩:=hs1;clear hg1;go_wp2_with fail;refine(Htl.o _).mono ?_;rintro e w2 ⟨rfl,hb2⟩;have HS2:=Aa (HS1.o.grow hb2);have Hg2:=Aa (Hg1.o.trans (Cf hb2 _));have C2:=Aa HS2.o.2.2.2.1;have hz2:b<w2.heap.size:=HS2.o.1;clear hb2 c1 z1;have kw:IntKind.i64.wrap ((t1.length:Int) - ((t1.dropWhile Cn).length:Int))=(t1.length:Int) - ((t1.dropWhile Cn).length:Int):=IntWalk.i64_in _ aI;have k1:(0:Int)<=(t1.length:Int) - ((t1.dropWhile Cn).length:Int):=aI;have k2:(t1.length:Int) - ((t1.dropWhile Cn).length:Int)<=(t1.length:Int):=aI;have k3:((t1.length:Int) - ((t1.dropWhile Cn).length:Int)).toNat=t1.length - (t1.dropWhile Cn).length:=aI;obtain⟨a,ha⟩:∃a,a=t1.takeWhile Cn:=⟨_,rfl⟩
 obtain⟨r,hr⟩:∃r,r=t1.dropWhile Cn:=⟨_,rfl⟩
 rw[<-ha]at Htk;rw[<-hr]at Htk Hw2 hdl kw k1 k2 k3;simp only[<-hr];have Hq:=Aa (fun t3 b2 b3=>Hq.o t3 b2 b3);simp only[<-hr,<-ha]at Hq;clear ha hr;go_wp2_with fail;refine Gd [12,13,14,15,16,17,18,19,20,21,22,23,24,4]
  (fun ix v W=>match ix with|0=>v=b|1=>v=b|2=>v=(b,1)|3=>v=.string ⟨t1.toArray⟩|4=>v=b|5=>v=b|6=>v=(b,1)|7=>v=.string ⟨t1.toArray⟩|8=>v=(t1.length:Int)|9=>v=.string ⟨r.toArray⟩|10=>v=(r.length:Int)|11=>v=.int .i64 ((t1.length:Int) - (r.length:Int))|12=>v=.string ⟨a.toArray⟩|13=>v=.string ⟨a.toArray⟩|_=>True)
  (fun L U W=>∃k,W=w2.drewN k) (⟨1,rfl⟩) ?_ ?_
 ·repeat (first|exact Ai.nil|(refine Ai.cons ?_ ?_;rotate_left))
  all_goals
   rintro L U W hL hpre HR Hdep K hK;obtain⟨k,hk⟩:=HR.o;have c1:W.cell? (b,1)=some (.string ⟨t1.toArray⟩):=by rw[hk];exact C2.o
   clear hk;first|(simp[Region.binds]at hpre;done)|simp[Region.binds]at hpre|clear hpre
  iterate 11
   ·exact ii
  ·exact jU
  ·exact kq
  ·exact ii
 rintro L U W hL hφ hR;have e13:U 13=.string ⟨a.toArray⟩:=hφ 13 aL;simp only[e13];clear hφ;obtain⟨k,rfl⟩:=hR;clear hL;have HS3:=Aa (HS2.o.drew k);have Hg3:=Aa (Hg2.o.trans (Cf (below_drewN (Am _ _) k) _));have hf1:=HS3.o.2.1.live 1;have q0:=HS3.o.1;have j2:=HS3.o.2.2.2.1;have j3:=HS3.o.2.2.2.2;go_wp2_with fail;refine(Hw2.o _ (HS3.o.setText r)).mono ?_;rintro e w4 ⟨rfl,hs4,hg4⟩;have HS4:=Aa hs4;have Hg4:=Aa ((Hg3.o.trans (Al _ _ _ _)).trans hg4);clear hg4 hs4 j2 j3 hf1 q0;have Hq4:=Aa (fun b3=>Hq.o _ _ b3 rfl rfl);generalize (Bk [39] r b1).getD r=t3 at *;generalize (Bk [39] r b1).isNone=b2 at *;have hf2:=HS4.o.2.1.live 2;have q0:=HS4.o.1;have k3:=HS4.o.2.2.2.2;by_cases hlen:a.length<=12
 ·have t1:decide ((12:Int)<(a.length:Int))=false:=aO;go_wp2_with fail;go_ret;obtain⟨h1,h2⟩:=Hq4.o b2 aO;exact⟨a,t3,b2,rfl,⟨HS4.o,Hg4.o⟩,h1,h2⟩
 have t1:decide ((12:Int)<(a.length:Int))=true:=aO;go_wp2_with fail;go_ret;obtain⟨h1,h2⟩:=Hq4.o true aO;exact⟨a,t3,true,rfl,⟨HS4.o.setBad true,Hg4.o.trans (Al _ _ _ _)⟩,h1,h2⟩
end
end Go.Proofs.YtpjijpcemejlnaaGreatDoor
