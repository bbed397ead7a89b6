/- Texts joined. Conditions: as each theorem names them. -/
import Derived.BigRegion
import Derived.BigQuiet
import Derived.Deep.QuietTactic
import Derived.Test.YtpjijpcemejlnaaGreatDoorP11
import Derived.Test.YtpjijpcemejlnaaGreatDoorP20
set_option maxRecDepth 100000
set_option maxHeartbeats 32000000
set_option linter.unusedVariables false
set_option linter.unusedSimpArgs false
namespace Go.Proofs.YtpjijpcemejlnaaGreatDoor
open Go.RowKit Go.Proofs.Tryz
section
attribute [local go_sem] Qhy Qhh Qg3 Qfo ByteArray.mk_append_mk
def Fg(w:World)(b:Nat)(p:Value)(t:List UInt8)(bad:Bool):Prop:=b<w.heap.size/\Ny w b/\w.cell? (b,0)=some p/\w.cell? (b,1)=t/\w.cell? (b,2)=some (.bool bad)
theorem Ny.live{w:World}{b:Nat}(h:Ny w b)(o:Nat):w.frozen? ⟨b,o,none⟩=false:=by
 obtain⟨cs,t,h⟩:=h;simp[World.frozen?,h]
theorem Fg.far{w w':World}{b:Nat}{p:Value}{t:List UInt8}{bad:Bool}(h:Fg w b p t bad){B:Nat}(hb:Below B w w')(hB:b<B):Fg w' b p t bad:=by
 obtain⟨h0,h1,h2,h3,h4⟩:=h;exact⟨ac h0 hb.size,h1.belowAt hB hb,(hb.cell (p:=⟨b,0,none⟩) hB).trans h2,(hb.cell (p:=⟨b,1,none⟩) hB).trans h3,(hb.cell (p:=⟨b,2,none⟩) hB).trans h4⟩
theorem Fg.drew{w:World}{b:Nat}{p:Value}{t:List UInt8}{bad:Bool}(h:Fg w b p t bad)(k:Nat):Fg (w.drewN k) b p t bad:=h.far (below_drewN (Au w.heap.size w) k) h.1
theorem Fg.setBad{w:World}{b:Nat}{p:Value}{t:List UInt8}{bad:Bool}(h:Fg w b p t bad)(x:Bool):Fg (w.setCell ⟨b,2,none⟩ (.bool x)) b p t x:=by
 obtain⟨h0,h1,h2,h3,h4⟩:=h;have hf:=h1.live 2;exact⟨by simpa using h0,h1.set _,by simp[go_sem,h2],by simp[go_sem,h3],by simp[go_sem,h4,hf]⟩
theorem Fg.setText{w:World}{b:Nat}{p:Value}{t:List UInt8}{bad:Bool}(h:Fg w b p t bad)(x:List UInt8):Fg (w.setCell ⟨b,1,none⟩ x) b p x bad:=by
 obtain⟨h0,h1,h2,h3,h4⟩:=h;have hf:=h1.live 1;exact⟨by simpa using h0,h1.set _,by simp[go_sem,h2],by simp[go_sem,h3,hf],by simp[go_sem,h4]⟩
theorem Qaz(w:World)(a:Addr)(v:Value):w.grownBy (w.setCell a v) (some a.block):=
 ⟨rfl,rfl,rfl,by simp,fun k _ hk=>Go.heap_setCell_other _ _ _ _ (fun e=>hk (by rw[e]))⟩
theorem Bb(w:World)(b o:Nat)(v:Value):w.grownBy (w.setCell ⟨b,o,none⟩ v) (some b):=Qaz w ⟨b,o,none⟩ v
theorem G6(b:Nat):∀(vs:List Value) (o:Nat) (w:World),w.grownBy (w.setCells b o vs) (some b)
 |[],_,w=>World.grownBy.refl _ _
 |v::r,o,w=>(Bb w b o v).trans (G6 b r (o+1) _)
theorem Cn{w w':World}(h:Below w w w')(row:Option Nat):w.grownBy w' row:=⟨h.os,h.tape,h.output,h.size,fun k hk _=>h.block k hk⟩
theorem Vx(p s:List UInt8):Ex p s=if p.isPrefixOf s=true then some (s.drop p.length)else none:=by
 by_cases h:p.isPrefixOf s=true
 ·rw[if_pos h];rw[List.isPrefixOf_iff_prefix]at h;obtain⟨t,rfl⟩:=h;rw[E9];simp
 rw[if_neg h];cases e:Ex p s with
 |none=>rfl
 |some r=>
  rw[E9]at e;subst e;exact absurd aK h
theorem Qc3(c:UInt8)(s:List UInt8):Ex [c] s=Am c s:=by
 unfold Ex;cases Am c s<;>rfl
def cpV(s:List UInt8):Option (List UInt8)->Value
 |some r=>.tuple #[r,.bool true]
 |none=>.tuple #[s,.bool false]
theorem Td(s p:List UInt8)(w:World)(hs:s.length<=4000000):
  Calls prog 174 #[s,p] w fun e w'=>e=.returned (cpV s (Ex p s))/\∃k,w'=w.drewN k:=by
 have HW:=Aa (Vx p s);have Hp:=Aa (fun W=>Si s p W);by_cases h:p.isPrefixOf s=true
 ·have HW2:=Aa (HW.o.trans (if_pos h));have hl:p.length<=s.length:=by rw[List.isPrefixOf_iff_prefix]at h;exact h.length_le
  have h1:(p.length:Int)<=(s.length:Int):=aG;have h2:(0:Int)<=(p.length:Int):=aG;rw[h]at Hp;clear h HW;go_enter func174,ntmps174;go_wp2_with fail;refine(Hp.o _).mono ?_;rintro e w1 ⟨rfl,rfl⟩;go_wp2_with fail;go_ret2;exact⟨by rw[HW2.o];rfl,0,rfl⟩
 have HW2:=Aa (HW.o.trans (if_neg h));have h':p.isPrefixOf s=false:=Bool.eq_false_iff.2 h;rw[h']at Hp;clear h h' HW;go_enter func174,ntmps174;go_wp2_with fail;refine(Hp.o _).mono ?_;rintro e w1 ⟨rfl,rfl⟩;go_wp2_with fail;go_ret2;exact⟨by rw[HW2.o];rfl,0,rfl⟩
theorem Tl(s p:List UInt8)(w:World)(hs:s.length<=4000000):
  Calls prog 141 #[s,p] w fun e w'=>e=.returned (cpV s (Ex p s))/\∃k,w'=w.drewN k:=by
 have Hp:=Aa (fun W=>Td s p W hs);cases hw:Ex p s with
 |none=>
  rw[hw]at Hp;clear hw;go_enter func141,ntmps141;go_wp2_with fail;refine(Hp.o _).mono ?_;rintro e w1 ⟨rfl,k,rfl⟩;unfold cpV;go_wp2_with fail;go_ret2;exact⟨rfl,k,rfl⟩
 |some r=>
  rw[hw]at Hp;clear hw;go_enter func141,ntmps141;go_wp2_with fail;refine(Hp.o _).mono ?_;rintro e w1 ⟨rfl,k,rfl⟩;unfold cpV;go_wp2_with fail;go_ret2;exact⟨rfl,k,rfl⟩
def C7(w:World)(b:Nat)(p:Value)(t:List UInt8)(bad:Bool)(w':World):Prop:=Fg w' b p t bad/\w.grownBy w' (some b)
def Aw(lead t:List UInt8)(bad:Bool):Option (List UInt8):=if bad then none else Ex lead t
theorem Gj(b:Nat)(p:Value)(t lead:List UInt8)(bad:Bool)(w:World)(h:Fg w b p t bad)(hl:t.length<=4000000):
  Calls prog 100 #[b,lead] w fun e w'=>
   e=.returned (.bool (Aw lead t bad).isSome)/\C7 w b p ((Aw lead t bad).getD t) bad w':=by
 have Hp:=Aa (fun W=>Tl t lead W hl);have HT:=@Aa (Aw lead t bad=if bad then none else Ex lead t) rfl;have HS:=Aa h;obtain⟨h0,h1,h2,h3,h4⟩:=h;have hfz:=h1.live 1;clear h1;cases hw:Ex lead t with
 |none=>
  have HT2:=Aa (show Aw lead t bad=none by rw[HT.o,hw];cases bad<;>rfl);rw[hw]at Hp;clear hw HT;go_enter func100,ntmps100;go_wp2_with fail;refine(Hp.o _).mono ?_;rintro e w1 ⟨rfl,k,rfl⟩;unfold cpV;go_wp2_with fail;go_ret;exact⟨by rw[HT2.o];rfl,by rw[HT2.o];exact⟨HS.o.drew k,Cn (below_drewN (Au _ _) k) _⟩⟩
 |some r=>
  rw[hw]at Hp;cases bad with
  |true=>
   have HT2:=@Aa (Aw lead t true=none) rfl;clear hw HT;go_enter func100,ntmps100;go_wp2_with fail;refine(Hp.o _).mono ?_;rintro e w1 ⟨rfl,k,rfl⟩;unfold cpV;go_wp2_with fail;go_ret;exact⟨by rw[HT2.o];rfl,by rw[HT2.o];exact⟨HS.o.drew k,Cn (below_drewN (Au _ _) k) _⟩⟩
  |false=>
   have HT2:=@Aa (Aw lead t false=some r) (HT.o.trans hw);clear hw HT;go_enter func100,ntmps100;go_wp2_with fail;refine(Hp.o _).mono ?_;rintro e w1 ⟨rfl,k,rfl⟩;unfold cpV;go_wp2_with fail;go_ret;exact⟨by rw[HT2.o];rfl,by rw[HT2.o];exact⟨(HS.o.drew k).setText r,(Cn (below_drewN (Au _ _) k) _).trans (Bb _ _ _ _)⟩⟩
theorem Cz(b:Nat)(p:Value)(t lead:List UInt8)(bad:Bool)(w:World)(h:Fg w b p t bad)(hl:t.length<=4000000):
  Calls prog 99 #[b,lead] w fun e w'=>
   e=.returned (.tuple #[])/\C7 w b p ((Aw lead t bad).getD t) (Aw lead t bad).isNone w':=by
 have Hp:=Aa (Gj b p t lead bad w h hl);have HB:=Aa (show ∀r,Aw lead t bad=some r->bad=false by intro r h;cases bad;rfl;cases h);generalize Aw lead t bad=o at Hp HB ⊢;cases o with
 |some r=>
  obtain rfl:=HB.o r rfl;go_enter func99,ntmps99;go_wp2_with fail;refine Hp.o.mono ?_;rintro e w1 ⟨rfl,hs⟩;have HS:=Aa hs;clear hs;go_wp2_with fail;go_end0
  exact⟨rfl,HS.o⟩
 |none=>
  go_enter func99,ntmps99;go_wp2_with fail;refine Hp.o.mono ?_;rintro e w1 ⟨rfl,hs⟩;have HS:=Aa hs;obtain⟨⟨h0,h1,_,_,h4⟩,_⟩:=hs;have hfz:=h1.live 2;clear h1;go_wp2_with fail;go_end0
  exact⟨rfl,HS.o.1.setBad true,HS.o.2.trans (Bb _ _ _ _)⟩
def Qem:List UInt8:=[48,49,50,51,52,53,54,55,56,57]
theorem Qd9(c:UInt8):Qem.contains c=Az c:=by
 have:=Nj (p:=fun c=>Qem.contains c == Az c) dN c;simpa using this
theorem Qfc(s:List UInt8):s.dropWhile (Qem.contains ·)=s.dropWhile Az:=by congr 1;funext c;exact Qd9 c
theorem Qfa(s:List UInt8):s.dropWhile (Z5.contains ·)=s.dropWhile By:=by congr 1;funext c;exact Zs c
theorem P7(p:UInt8->Bool)(s:List UInt8):s.take (s.length - (s.dropWhile p).length)=s.takeWhile p/\(s.dropWhile p).length<=s.length:=by
 have e:s.takeWhile p++s.dropWhile p=s:=List.takeWhile_append_dropWhile;have hl:(s.takeWhile p).length+(s.dropWhile p).length=s.length:=by rw[<-ah,e]
 refine⟨?_,by omega⟩;conv=>lhs;arg 2;rw[<-e]
 rw[show s.length - (s.dropWhile p).length=(s.takeWhile p).length by omega,List.take_left]
def Ge(t:List UInt8):Nat:=(Cf (t.takeWhile Az)).getD 0
def Fq(m:Nat)(t:List UInt8):Bool:=match Cf (t.takeWhile Az)with|some n=>decide (n<=m)|none=>false
theorem Qgb(m:Nat)(t:List UInt8):pnV (t.takeWhile Az) m=.tuple #[.int .i64 (Ge t:Int),.bool (Fq m t)]:=by
 unfold pnV Ge Fq;cases Cf (t.takeWhile Az)<;>rfl
theorem Fg.grow{w w':World}{b:Nat}{p:Value}{t:List UInt8}{bad:Bool}(h:Fg w b p t bad)(hb:Below w w w'):Fg w' b p t bad:=h.far hb h.1
theorem Nb(b m:Nat)(p:Value)(t:List UInt8)(bad:Bool)(w:World)(h:Fg w b p t bad)(hl:t.length<=4000000)(hm:m<=999999):
  Calls prog 143 #[b,.int .i64 m] w fun e w'=>
   e=.returned (.int .i64 (Ge t:Int))/\C7 w b p (t.dropWhile Az) (bad || !Fq m t) w':=by
 have Htl:=Aa (fun W=>Ma t Qem W aJ aJ);simp only[Qfc]at Htl;have Hpn:=Aa (fun W=>Fr (t.takeWhile Az) m W (by have:=(P7 Az t).1;have h2:=List.length_take_le (t.length - (t.dropWhile Az).length) t;rw[this]at h2;omega) hm);rw[Qgb]at Hpn;obtain⟨htk,hdl⟩:=P7 Az t;have Htk:=Aa htk;unfold Qem at Htl;have HS:=Aa h;have kw:IntKind.i64.wrap ((t.length:Int) - ((t.dropWhile Az).length:Int))=(t.length:Int) - ((t.dropWhile Az).length:Int):=IntWalk.i64_in _ aG;have k1:(0:Int)<=(t.length:Int) - ((t.dropWhile Az).length:Int):=aG;have k2:(t.length:Int) - ((t.dropWhile Az).length:Int)<=(t.length:Int):=aG;have k3:((t.length:Int) - ((t.dropWhile Az).length:Int)).toNat=t.length - (t.dropWhile Az).length:=aG;generalize Ge t=n at *;generalize Fq m t=ok at *;generalize t.takeWhile Az=a at *;generalize t.dropWhile Az=r at *;obtain⟨h0,h1,h2,h3,h4⟩:=h;clear htk h1;go_enter func143,ntmps143;go_wp2_with fail;refine(Htl.o _).mono ?_;rintro e w1 ⟨rfl,hb1⟩;have HS1:=Aa (HS.o.grow hb1);have Hb1:=Aa hb1;have C1:=Aa ((hb1.cell (p:=⟨b,1,none⟩) h0).trans h3);have hz1:b<w1.heap.size:=by have:=hb1.size;omega
 clear hb1 HS h2 h3 h4;go_wp2_with fail;refine N4 [14,15,16,17,18,19,20,21,22,23,24,25,26,27,28,13,29,30,6,7]
  (fun ix v W=>match ix with|0=>v=b|1=>v=b|2=>v=(b,1)|3=>v=t|4=>v=b|5=>v=b|6=>v=(b,1)|7=>v=t|8=>v=(t.length:Int)|9=>v=r|10=>v=(r.length:Int)|11=>v=.int .i64 ((t.length:Int) - (r.length:Int))|12=>v=a|13=>v=(m:Int)|14=>v=.tuple #[(n:Int),.bool ok]|15=>v=.tuple #[(n:Int),.bool ok]|16=>v=(n:Int)|17=>v=.bool ok|18=>v=(n:Int)|19=>v=.bool ok|_=>True)
  (fun L U W=>∃k,W=w1.drewN k) (⟨1,rfl⟩) ?_ ?_
 ·repeat (first|exact Ar.nil|(refine Ar.cons ?_ ?_;rotate_left))
  all_goals
   rintro L U W hL hpre HR Hdep K hK;obtain⟨k,hk⟩:=HR.o;have c1:W.cell? (b,1)=t:=by rw[hk];exact C1.o
   clear hk;first|(simp[Region.binds]at hpre;done)|simp[Region.binds]at hpre|clear hpre
  iterate 11
   ·exact eT
  ·exact gw
  ·exact gf
  ·exact eT
  ·go_simp;refine(Hpn.o W).mono ?_;rintro e w' ⟨rfl,rfl⟩;exact kF hK HR.o
  iterate 5
   ·exact eT
 rintro L U W hL hφ hR;have e18:U 18=(n:Int):=hφ 18 aJ;have e19:U 19=.bool ok:=hφ 19 aJ;simp only[e18,e19];clear hφ;obtain⟨k,rfl⟩:=hR;clear hL;have HS2:=Aa (HS1.o.drew k);have Hb2:=Aa (below_drewN Hb1.o k);obtain⟨q0,q1,_,_,_⟩:=HS2.o;have hf1:=q1.live 1;have hf2:=q1.live 2;clear q1;have j2:=HS2.o.2.2.2.1;have j3:=HS2.o.2.2.2.2;cases ok with
 |true=>
  go_wp2_with fail;go_ret;refine⟨rfl,by simpa using HS2.o.setText r,(Cn Hb2.o _).trans (Bb _ _ _ _)⟩
 |false=>
  go_wp2_with fail;go_ret;refine⟨rfl,by simpa using(HS2.o.setBad true).setText r,((Cn Hb2.o _).trans (Bb _ _ _ _)).trans (Bb _ _ _ _)⟩
def Qhb(t:List UInt8)(bad:Bool)(b:Nat)(p:Value)(w:World)(e:Ending)(w':World):Prop:=
 ∃(x t':List UInt8) (bad':Bool),e=.returned x/\C7 w b p t' bad' w'/\(if bad then none else Kj t)=(if bad' then none else some (x,t'))/\x.length+t'.length<=t.length
theorem No{c:UInt8}{t:List UInt8}:((Am c t).getD t).length<=t.length:=by
 cases h:Am c t with
 |none=>exact Ap _
 |some r=>rw[B0]at h;subst h;simp
theorem Bz(c:UInt8)(t:List UInt8)(bad:Bool):Aw [c] t bad=if bad then none else Am c t:=by unfold Aw;rw[Qc3]
theorem Zi(t t1 t3:List UInt8)(bad b1 b2 b3:Bool)(h1:t1=(Aw [39] t bad).getD t)(hb1:b1=(Aw [39] t bad).isNone)(h3:t3=(Aw [39] (t1.dropWhile By) b1).getD (t1.dropWhile By))(hb2:b2=(Aw [39] (t1.dropWhile By) b1).isNone)
  (hb3:b3=(b2 || decide (12<(t1.takeWhile By).length))):
  (if bad then none else Kj t)=(if b3 then none else some (t1.takeWhile By,t3))/\(t1.takeWhile By).length+t3.length<=t.length:=by
 have e:(t1.takeWhile By).length+(t1.dropWhile By).length=t1.length:=by rw[<-ah,List.takeWhile_append_dropWhile]
 rw[Bz]at h1 hb1 h3 hb2;subst h1 hb1 h3 hb2 hb3;constructor
 ·cases bad with
  |true=>simp
  |false=>
   unfold Kj;simp only[an,if_false];cases Am 39 t with
   |none=>simp
   |some r=>
    simp only[Option.getD_some,Option.isNone_some,an,if_false];cases Am 39 (r.dropWhile By)with
    |none=>simp
    |some q=>
     simp only[Option.getD_some,Option.isNone_some,Bool.false_or,decide_eq_true_eq];by_cases h:(r.takeWhile By).length<=12
     ·rw[if_pos h,if_neg aG]
     rw[if_neg h,if_pos aG]
 have k1:((if bad=true then none else Am 39 t).getD t).length<=t.length:=by cases bad;exact No;exact Ap _
 generalize (if bad=true then none else Am 39 t)=o at *;have k2:((if o.isNone=true then none else Am 39 ((o.getD t).dropWhile By)).getD ((o.getD t).dropWhile By)).length<=((o.getD t).dropWhile By).length:=by cases o.isNone;exact No;exact Ap _
 omega
theorem Z4(b:Nat)(p:Value)(t:List UInt8)(bad:Bool)(w:World)(h:Fg w b p t bad)(hl:t.length<=4000000):
  Calls prog 144 #[b] w (Qhb t bad b p w):=by
 have Hq:=Aa (Zi t);have Hw1:=Aa (fun W (h:Fg W b p t bad)=>Cz b p t [39] bad W h hl);have hk1:((Aw [39] t bad).getD t).length<=t.length:=eo;have HS:=Aa h;clear h;obtain⟨t1,ht1⟩:∃t1,t1=(Aw [39] t bad).getD t:=⟨_,rfl⟩
 obtain⟨b1,hb1⟩:∃b1,b1=(Aw [39] t bad).isNone:=⟨_,rfl⟩
 rw[<-ht1]at hk1;have Hq:=Aa (fun t3 b2 b3=>Hq.o t1 t3 bad b1 b2 b3 ht1 hb1);rw[<-ht1,<-hb1]at Hw1;clear ht1 hb1;have Htl:=Aa (fun W=>Ma t1 Z5 W aJ aJ);simp only[Qfa]at Htl;unfold Z5 at Htl;obtain⟨htk,hdl⟩:=P7 By t1;have Htk:=Aa htk;have Hw2:=Aa (fun W (h:Fg W b p (t1.dropWhile By) b1)=>Cz b p (t1.dropWhile By) [39] b1 W h aG);clear htk;go_enter func144,ntmps144;go_wp2_with fail;refine(Hw1.o _ HS.o).mono ?_;rintro e w1 ⟨rfl,hs1,hg1⟩;have HS1:=Aa hs1;have Hg1:=Aa hg1;obtain⟨z1,_,_,c1,_⟩:=hs1;clear hg1;go_wp2_with fail;refine(Htl.o _).mono ?_;rintro e w2 ⟨rfl,hb2⟩;have HS2:=Aa (HS1.o.grow hb2);have Hg2:=Aa (Hg1.o.trans (Cn hb2 _));have C2:=Aa HS2.o.2.2.2.1;have hz2:b<w2.heap.size:=HS2.o.1;clear hb2 c1 z1;have kw:IntKind.i64.wrap ((t1.length:Int) - ((t1.dropWhile By).length:Int))=(t1.length:Int) - ((t1.dropWhile By).length:Int):=IntWalk.i64_in _ aG;have k1:(0:Int)<=(t1.length:Int) - ((t1.dropWhile By).length:Int):=aG;have k2:(t1.length:Int) - ((t1.dropWhile By).length:Int)<=(t1.length:Int):=aG;have k3:((t1.length:Int) - ((t1.dropWhile By).length:Int)).toNat=t1.length - (t1.dropWhile By).length:=aG;obtain⟨a,ha⟩:∃a,a=t1.takeWhile By:=⟨_,rfl⟩
 obtain⟨r,hr⟩:∃r,r=t1.dropWhile By:=⟨_,rfl⟩
 rw[<-ha]at Htk;rw[<-hr]at Htk Hw2 hdl kw k1 k2 k3;simp only[<-hr];have Hq:=Aa (fun t3 b2 b3=>Hq.o t3 b2 b3);simp only[<-hr,<-ha]at Hq;clear ha hr;go_wp2_with fail;refine N4 [12,13,14,15,16,17,18,19,20,21,22,23,24,4]
  (fun ix v W=>match ix with|0=>v=b|1=>v=b|2=>v=(b,1)|3=>v=.string ⟨t1.toArray⟩|4=>v=b|5=>v=b|6=>v=(b,1)|7=>v=.string ⟨t1.toArray⟩|8=>v=(t1.length:Int)|9=>v=.string ⟨r.toArray⟩|10=>v=(r.length:Int)|11=>v=.int .i64 ((t1.length:Int) - (r.length:Int))|12=>v=.string ⟨a.toArray⟩|13=>v=.string ⟨a.toArray⟩|_=>True)
  (fun L U W=>∃k,W=w2.drewN k) (⟨1,rfl⟩) ?_ ?_
 ·repeat (first|exact Ar.nil|(refine Ar.cons ?_ ?_;rotate_left))
  all_goals
   rintro L U W hL hpre HR Hdep K hK;obtain⟨k,hk⟩:=HR.o;have c1:W.cell? (b,1)=some (.string ⟨t1.toArray⟩):=by rw[hk];exact C2.o
   clear hk;first|(simp[Region.binds]at hpre;done)|simp[Region.binds]at hpre|clear hpre
  iterate 11
   ·exact eT
  ·exact gw
  ·exact gf
  ·exact eT
 rintro L U W hL hφ hR;have e13:U 13=.string ⟨a.toArray⟩:=hφ 13 aJ;simp only[e13];clear hφ;obtain⟨k,rfl⟩:=hR;clear hL;have HS3:=Aa (HS2.o.drew k);have Hg3:=Aa (Hg2.o.trans (Cn (below_drewN (Au _ _) k) _));have hf1:=HS3.o.2.1.live 1;have q0:=HS3.o.1;have j2:=HS3.o.2.2.2.1;have j3:=HS3.o.2.2.2.2;go_wp2_with fail;refine(Hw2.o _ (HS3.o.setText r)).mono ?_;rintro e w4 ⟨rfl,hs4,hg4⟩;have HS4:=Aa hs4;have Hg4:=Aa ((Hg3.o.trans (Bb _ _ _ _)).trans hg4);clear hg4 hs4 j2 j3 hf1 q0;have Hq4:=Aa (fun b3=>Hq.o _ _ b3 rfl rfl);generalize (Aw [39] r b1).getD r=t3 at *;generalize (Aw [39] r b1).isNone=b2 at *;have hf2:=HS4.o.2.1.live 2;have q0:=HS4.o.1;have k3:=HS4.o.2.2.2.2;by_cases hlen:a.length<=12
 ·have t1:decide ((12:Int)<(a.length:Int))=false:=aN;go_wp2_with fail;go_ret;obtain⟨h1,h2⟩:=Hq4.o b2 aN;exact⟨a,t3,b2,rfl,⟨HS4.o,Hg4.o⟩,h1,h2⟩
 have t1:decide ((12:Int)<(a.length:Int))=true:=aN;go_wp2_with fail;go_ret;obtain⟨h1,h2⟩:=Hq4.o true aN;exact⟨a,t3,true,rfl,⟨HS4.o.setBad true,Hg4.o.trans (Bb _ _ _ _)⟩,h1,h2⟩
inductive Bd:Vl->Prop
 |mk {w:UInt8} {tx:List UInt8} {tg:Nat} {ks:List Vl} (h1:tg<=1000000000) (h2:Df (ks.map Bg)<=1000000) (h3:tx.length<=1000000) (h:∀x∈ks,Bd x):Bd (.mk w tx tg ks)
theorem N5{w:World}{base k n:Nat}{e:TypeId}{v:Value}{xs:List Value}(h:w.ownsRow base e k v n xs):∃A m c,v=.slice A m c:=by
 rcases h.2 with⟨rfl,_⟩|⟨g,cap,cur,rfl,_⟩
 ·exact⟨_,_,_,rfl⟩
 exact⟨_,_,_,rfl⟩
theorem Qfy{w:World}{base n m c:Nat}{e:TypeId}{A:Option Addr}{xs:List Value}(h:w.ownsRow base e 1 (.slice A m c) n xs):m=n/\n<=c\/n=0/\m=0:=by
 rcases h.2 with⟨e,h0⟩|⟨g,cap,cur,e,_,_,hnc,_⟩
 ·injection e with _ e1 e2;exact .inr ⟨h0,e1⟩
 injection e with _ e1 e2;subst e1 e2;exact .inl ⟨rfl,hnc⟩
theorem Qg9(w:UInt8)(tx:List UInt8)(tg:Nat)(ps:List (List UInt8)):G1 w tx tg ps=if w=116 then 39::(tx++[39])
  else if w=91 then 91::(Aq 44 ps++[93])else if w=63 then(if ps.length=0 then[45]else 43::Aq 44 ps)else if w=61 then An tg++61::Aq 44 ps else if w=82 then 123::(Aq 44 ps++[125])
  else if w=85 then 60::(An tg++61::(Aq 44 ps++[62]))else if w=69 then 35::An tg else tx:=by
 unfold G1;cases ps<;>rfl
theorem Yp(P:Nat->Prop)(v:Vl)(sl:Value)(w:World)(h:Eb P w sl v.kids)(hb:Bd v)
  (ih:∀x∈v.kids,∀s W,Eb P W s x.kids->Calls prog 36 #[Kc x s] W fun e w'=>e=.returned (.string ⟨(Bg x).toArray⟩)/\Below W W w'):
  Calls prog 36 #[Kc v sl] w fun e w'=>e=.returned (.string ⟨(Bg v).toArray⟩)/\Below w w w':=by
 have Ih:=Aa ih;obtain⟨wh,tx,tg,ks⟩:=v;obtain⟨h1,h2,h3,_⟩:=hb;have HF:=Aa (Ql wh tx tg ks);simp only[Vl.kids]at h;have Ih:=@Aa (∀x∈ks,∀s W,Eb P W s x.kids->_) ih;obtain⟨A,c,xs,rfl,rfl,hl,hr,hP,hk⟩:=h;have Hr:=Aa hr;have Hk:=Aa hk;have hxl:(Av xs).length=xs.length:=by simp[Av]
 have Hd:=Aa (fun W=>Ez tg tg W (Ap _) h1);clear hr hk ih hP;unfold Kc;simp only[Vl.what,Vl.text,Vl.tag];go_enter func36,ntmps36;go_wp2_with fail;obtain⟨w1,hw1⟩:∃w1,w1=w.alloc (.cells #[.int .u8 (wh.toNat:Int),tx,(tg:Int),.slice A xs.length c] 47):=⟨_,rfl⟩
 rw[<-hw1];have c0:w1.cell? (w,0)=some (.int .u8 (wh.toNat:Int)):=dk;have c1:w1.cell? (w,1)=tx:=dk;have c2:w1.cell? (w,2)=(tg:Int):=dk;have c3:w1.cell? (w,3)=some (.slice A xs.length c):=dk;have hz1:w1.heap.size=w.heap.size+1:=dk;have Hb1:=Aa (show Below w w w1 by rw[hw1];exact(Au _ _).alloc (Ap _) _);have Hr1:=Aa (Hr.o.below Hb1.o);have Hk1:=Aa (fun x hx=>(Hk.o x hx).after Hb1.o);have hB:w.heap.size<w1.heap.size:=aG;generalize hB0:w.heap.size=B at *;have HB0:=Aa hB0;clear hB0;clear hw1 Hr Hk;go_loopw [10,3] (fun i u wr=>∃(m:Nat) (A3:Option Addr) (n3 q3:Nat),i=.int .i64 m/\u=.slice A3 n3 q3/\m<=xs.length/\Hid (wr.ownsRow w1 9 1 (.slice A3 n3 q3) m (Ag ((xs.take m).map fun x=>Bg x.1)))/\Hid (Below w1 w1 wr)) (fun i _ _=>xs.length - (intOf i).toNat)
 case atStart=>exact⟨0,none,0,0,rfl,rfl,ag _,World.ownsRow_nil _ _ _ _,Au _ _⟩
 case round=>
  obtain⟨m,A3,n3,q3,rfl,rfl,hm,Hown,Hbr⟩:=hrel;have m1:(0:Int)<=(m:Int):=aG;by_cases hlt:m<xs.length
  ·have m2:(m:Int)<(xs.length:Int):=aG;obtain⟨b,off,rfl,hb,d0,d1,d2,d3⟩:=Eb.at_ (Hr1.o.below Hbr.o) hlt;have hkx:=(Hk1.o _ (ae hlt)).after Hbr.o;have Hkx:=Aa hkx;have Hmx:=@Aa (xs[m].1∈Av xs) (ao (ae hlt));have Hts:=Aa (Be xs m hlt);have hsz:w1.heap.size<=wr.heap.size:=Hbr.o.size;have hbn:¬(b=wr.heap.size):=aG;clear hkx;generalize xs[m]=x at *;obtain⟨y,ys⟩:=x;obtain⟨A7,c7,e7⟩:=Hkx.o.form;simp only at e7 d0 d1 d2 d3 Hkx Hmx;subst e7;have Hx:=Aa (fun W=>Ih.o y Hmx.o (.slice A7 y.kids.length c7) W);unfold Kc at Hx;go_wp2_with fail;refine(Hx.o _ (Hkx.o.after ((Au _ _).alloc (Ap _) _))).mono ?_;rintro e w3 ⟨rfl,hb3⟩;have Hb3:=Aa (((Au _ _).alloc (Ap _) _).trans (hb3.mono aK));have Ho3:=Aa (Ax Hown.o Hb3.o);have hs3:w1.heap.size<=w3.heap.size:=ad hsz Hb3.o.size;clear hb3;go_wp2_with (at_builtin;refine M9 _ rfl _ _ 31 rfl w1 9 a8 16 underlying31 Gd rfl w3 (.string ⟨(Bg y).toArray⟩) rfl rfl (.slice A3 n3 q3) m (Ag ((xs.take m).map fun x=>Bg x.1)) rfl rfl Ho3.o bj aG hs3 ?_;intro v' w5 hown5 hb5;obtain⟨A5,n5,c5,rfl⟩:=N5 hown5;have Ho:=Aa hown5;have Hb5:=Aa hb5;clear hown5 hb5)
   go_roundw
   case rel=>exact⟨m+1,A5,n5,c5,by go_num,rfl,by omega,(by rw[Hts.o,ay,Nv];exact Ho.o),(Hbr.o.trans (Hb3.o.mono hsz)).trans Hb5.o⟩
   case measure=>simp[intOf];omega
  ·obtain rfl:m=xs.length:=aG;have hown6:=Hown.o;rw[List.take_length]at hown6;have hrow:=Bf.own hown6;obtain⟨A6,c6,e6,hr6⟩:=hrow;have hcap:=Qfy hown6;injection e6 with e7 e8 e9;subst e7 e8 e9;have Hps:=Aa (show (xs.map fun x=>Bg x.1)=(Av xs).map Bg by simp[Av]);have hpl:(xs.map fun x=>Bg x.1).length=xs.length:=aK
   have Hj:=Aa (fun W (hW:Bf W A3 xs.length (Ag (xs.map fun x=>Bg x.1)))=>(by
    have:=Qg2 A3 q3 (xs.map fun x=>Bg x.1) W (by rw[hpl];exact hW) (by rw[hpl];omega) (by rw[Hps.o];omega);rw[hpl]at this;exact this:Calls prog 45 #[.slice A3 xs.length q3,.string ⟨#[44]⟩] W fun e w'=>e=.returned (.string ⟨(Aq 44 (xs.map fun x=>Bg x.1)).toArray⟩)/\Below W W w'))
   have HF:=Aa (show Bg (.mk wh tx tg (Av xs))=_ by rw[HF.o,<-Hps.o,Qg9,hpl]);have hjl:(Aq 44 (xs.map fun x=>Bg x.1)).length<=1000000:=by rw[Bw,Hps.o];omega
   have hdl:(An tg).length<=11:=C0 10 tg (by have e:10 ^ (10+1)=100000000000:=rfl;omega);generalize (xs.map fun x=>Bg x.1)=ps at *;generalize Aq 44 ps=jt at *;have Hr6:=Aa hr6;have Hb6:=Aa (Hb1.o.trans (Hbr.o.mono aG));clear hown6 hr6 hcap Hps hpl Hown Ih Hk1 Hr1;go_wp2_with fail;refine(Hj.o _ Hr6.o).mono ?_;rintro e w4 ⟨rfl,hb4⟩;have Hb4:=Aa (Hb6.o.trans (hb4.mono dO));have hc4:=fun j=>(hb4.cell (p:=⟨B,j,none⟩) (show B<wr.heap.size by have:=Hbr.o.size;omega)).trans (Hbr.o.cell (p:=⟨B,j,none⟩) hB);have g0:=(hc4 0).trans c0;have g1:=(hc4 1).trans c1;have g2:=(hc4 2).trans c2;have g3:=(hc4 3).trans c3;clear hc4 hb4 Hj Hr6 Hb6 Hbr Hb1;by_cases a116:wh=116
   ·have HF:=Aa (HF.o.trans (if_pos a116));have t116:((wh.toNat:Int) == 116)=true:=Bj (d:=116) a116;clear a116;go_wp2_with fail;exact gR
   have HF:=Aa (HF.o.trans (if_neg a116));have t116:((wh.toNat:Int) == 116)=false:=Ak (d:=116) a116;clear a116;by_cases a91:wh=91
   ·have HF:=Aa (HF.o.trans (if_pos a91));have t91:((wh.toNat:Int) == 91)=true:=Bj (d:=91) a91;clear a91;go_wp2_with fail;exact gR
   have HF:=Aa (HF.o.trans (if_neg a91));have t91:((wh.toNat:Int) == 91)=false:=Ak (d:=91) a91;clear a91;by_cases a63:wh=63
   ·have HF:=Aa (HF.o.trans (if_pos a63));have t63:((wh.toNat:Int) == 63)=true:=Bj (d:=63) a63;clear a63;by_cases h0:xs.length=0
    ·have e0:((xs.length:Int) == 0)=true:=by simp[h0]
     have HF:=Aa (HF.o.trans (if_pos h0));clear h0;go_wp2_with fail;exact gS
    have e0:((xs.length:Int) == 0)=false:=bS;have HF:=Aa (HF.o.trans (if_neg h0));clear h0;go_wp2_with fail;exact gS
   have HF:=Aa (HF.o.trans (if_neg a63));have t63:((wh.toNat:Int) == 63)=false:=Ak (d:=63) a63;clear a63;by_cases a61:wh=61
   ·have HF:=Aa (HF.o.trans (if_pos a61));have t61:((wh.toNat:Int) == 61)=true:=Bj (d:=61) a61;clear a61;go_wp2_with fail;refine(Hd.o _).mono ?_;rintro e w5 ⟨rfl,hb5⟩;have Hb4:=Aa (Hb4.o.trans (hb5.mono di));clear hb5;go_wp2_with fail;exact gR
   have HF:=Aa (HF.o.trans (if_neg a61));have t61:((wh.toNat:Int) == 61)=false:=Ak (d:=61) a61;clear a61;by_cases a82:wh=82
   ·have HF:=Aa (HF.o.trans (if_pos a82));have t82:((wh.toNat:Int) == 82)=true:=Bj (d:=82) a82;clear a82;go_wp2_with fail;exact gR
   have HF:=Aa (HF.o.trans (if_neg a82));have t82:((wh.toNat:Int) == 82)=false:=Ak (d:=82) a82;clear a82;by_cases a85:wh=85
   ·have HF:=Aa (HF.o.trans (if_pos a85));have t85:((wh.toNat:Int) == 85)=true:=Bj (d:=85) a85;clear a85;go_wp2_with fail;refine(Hd.o _).mono ?_;rintro e w5 ⟨rfl,hb5⟩;have Hb4:=Aa (Hb4.o.trans (hb5.mono di));clear hb5;go_wp2_with fail;exact gR
   have HF:=Aa (HF.o.trans (if_neg a85));have t85:((wh.toNat:Int) == 85)=false:=Ak (d:=85) a85;clear a85;by_cases a69:wh=69
   ·have HF:=Aa (HF.o.trans (if_pos a69));have t69:((wh.toNat:Int) == 69)=true:=Bj (d:=69) a69;clear a69;go_wp2_with fail;refine(Hd.o _).mono ?_;rintro e w5 ⟨rfl,hb5⟩;have Hb4:=Aa (Hb4.o.trans (hb5.mono di));clear hb5;go_wp2_with fail;exact gR
   have HF:=Aa (HF.o.trans (if_neg a69));have t69:((wh.toNat:Int) == 69)=false:=Ak (d:=69) a69;clear a69;go_wp2_with fail;exact gS
theorem Z8(P:Nat->Prop){v:Vl}(hb:Bd v):∀(sl:Value) (w:World),Eb P w sl v.kids ->
  Calls prog 36 #[Kc v sl] w fun e w'=>e=.returned (.string ⟨(Bg v).toArray⟩)/\Below w w w':=by
 induction hb with
 |mk h1 h2 h3 h ih=>exact fun sl w hk=>Yp P _ sl w hk (.mk h1 h2 h3 h) fun x hx s W hs=>ih x hx s W hs
section
variable {P:Program}
theorem Ay{fn:Func}{p:Tmp}{ty:TypeId}(h:fn.results=#[.cell p ty])(tmps:Array Value)(w:World)(b:Nat)(cs:List Value)(d:TypeDesc)
  (hp:tmps.getD p undef=b) (hc:w.rangeAt b 0 cs) (hu:P.underlying ty=some d) (hd:d.isRow=true) (hi:(P.info? ty).map (·.size)=some cs.length):
  (results fn tmps).run P w=.ok (.agg cs.toArray) w:=by
 have hp':tmps[p]?.getD undef=b:=dR;simp[results,h,hp',asAddr,run_loadVar_mid w b 0 ty cs d hc hu hd hi]
end
theorem V8{w W:World}{row:Option Nat}{B o:Nat}(h:w.grownBy W row)(hB:w.heap.size<=B):∀(cs:List Value) (o:Nat),w.grownBy (W.setCells B o cs) row:=by
 intro cs;induction cs generalizing W with
 |nil=>intro o;exact h
 |cons v cs ih=>
  intro o;refine ih (W:=W.setCell ⟨B,o,none⟩ v) ⟨h.os,h.tape,h.output,by simpa using h.size,fun k hk hne=>?_⟩ (o+1);rw[Go.heap_setCell_other _ _ _ _ (show k≠B by omega)];exact h.block k hk hne
theorem C7.trans{w w1 w2:World}{b:Nat}{p:Value}{t t':List UInt8}{x y:Bool}(h1:C7 w b p t x w1)(h2:C7 w1 b p t' y w2):C7 w b p t' y w2:=⟨h2.1,h1.2.trans h2.2⟩
theorem C7.pre{w w1 w2:World}{b:Nat}{p:Value}{t:List UInt8}{x:Bool}(hb:Below w w w1)(h:C7 w1 b p t x w2):C7 w b p t x w2:=⟨h.1,(Cn hb _).trans h.2⟩
theorem C7.post{w w1 w2:World}{b:Nat}{p:Value}{t:List UInt8}{x:Bool}(h:C7 w b p t x w1)(hb:Below w1 w1 w2):C7 w b p t x w2:=⟨h.1.grow hb,h.2.trans (Cn hb _)⟩
theorem C7.set{w W:World}{b B:Nat}{p:Value}{t:List UInt8}{x:Bool}(h:C7 w b p t x W)(hB:w.heap.size<=B)(hne:B≠b)(cs:List Value):C7 w b p t x (W.setCells B 0 cs):=by
 obtain⟨⟨h0,h1,h2,h3,h4⟩,hg⟩:=h;have hk:(W.setCells B 0 cs).heap[b]?=W.heap[b]?:=(G6 B cs 0 W).block b h0 (by simpa using hne.symm);have hc:∀o,(W.setCells B 0 cs).cell? ⟨b,o,none⟩=W.cell? ⟨b,o,none⟩:=fun o=>World.cell?_of_block (a:=⟨b,o,none⟩) hk;obtain⟨c1,t1,e1⟩:=h1;exact⟨⟨by rw[C5];exact h0,⟨c1,t1,hk.trans e1⟩,(hc 0).trans h2,(hc 1).trans h3,(hc 2).trans h4⟩,V8 (o:=0) hg hB cs 0⟩
theorem C7.env{w0 w w1:World}{b:Nat}{p:Value}{t:List UInt8}{x:Bool}(h:C7 w b p t x w1)(h0:Below w0 w0 w)(hb:w0.heap.size<=b):Below w0 w0 w1:=
 h0.grown h.2 h0.size fun k hk=>by injection hk with hk;omega
theorem Eb.set{P:Nat->Prop}{w:World}{v:Value}{ks:List Vl}(h:Eb P w v ks){B:Nat}(hB:¬P B)(cs:List Value):Eb P (w.setCells B 0 cs) v ks:=
 h.grown (G6 B cs 0 w) fun b hb e=>by injection e with e;subst e;exact hB hb
def Jh(w:World)(b:Nat)(p:Value)(t:List UInt8)(N:Nat)(r:Option (Vl × List UInt8))(e:Ending)(w':World):Prop:=
 ∃(v:Vl) (sl:Value) (t':List UInt8),e=.returned (Kc v sl)/\Eb (fun b=>w.heap.size<=b) w' sl v.kids/\C7 w b p t' r.isNone w'/\(∀x,r=some x->v=x.1/\t'=x.2)/\Bd v/\t'.length<=t.length/\(Bg v).length+t'.length<=t.length+8*N
def E3:Vl:=.mk 0 [] 0 []
theorem D9{w:UInt8}{tx:List UInt8}{tg:Nat}(h1:tg<=1000000000)(h3:tx.length<=1000000):Bd (.mk w tx tg []):=.mk h1 ej h3 aK
theorem T9(k:Kd)(w:World)(c:UInt8)(t:List UInt8)(hs:k.signs=c::t)(hl:t.length<=1000):
  Calls prog 101 #[Jv k] w fun e w'=>e=.returned (Jv k.part)/\Below w w w':=by
 have hp:k.part=⟨t,k.base,k.name⟩:=by unfold Kd.part;rw[hs];rfl
 rw[hp];unfold Jv;rw[hs];clear hp hs;go_enter func101,ntmps101;go_wp2_with fail;refine aE (v:=.agg ([t,k.base,k.name]:List Value).toArray) ?_ rfl ?_
 ·refine Ay results101 _ _ (w.heap.size+1) _ _ rfl ?_ underlying62 rfl aM;intro j v hv;match j,hv with
  |0,hv=>simp at hv;subst hv;simp[go_sem]
  |1,hv=>simp at hv;subst hv;simp[go_sem]
  |2,hv=>simp at hv;subst hv;simp[go_sem]
  |n+3,hv=>simp at hv
 exact⟨rfl,((Au _ _).alloc (Ap _) _).alloc aK _⟩
theorem Jj(c:UInt8)(s:List UInt8):(Cr c s).1.length<=s.length/\(Cr c s).2.1.length<=s.length:=by
 rcases Ed c s with⟨_,h⟩|⟨p,t,rfl,_,h⟩
 ·rw[h];simp
 rw[h];simp;omega
def J8(st:UInt8)(ps:List (List UInt8))(vl:List UInt8)(td:Bool):Option Fd:=
 if st=69 then
  match H4 ps with
  |some (n,b)=>if td=true then none else some ⟨n,b,Kd.nil,vl⟩
  |none=>none
 else
  match Jx ps with
  |some (n,b,c)=>(match Cg c with
   |some k=>if td=true/\¬(st=82/\k.signs=[]/\Bs k.base vl=true)then none else some ⟨n,b,k,vl⟩
   |none=>none)
  |none=>none
theorem Vq(st:UInt8)(s:List UInt8):Fv st s=J8 st (Ae 58 (Cr 61 s).1) (Cr 61 s).2.1 (Cr 61 s).2.2:=rfl
theorem Sd{st:UInt8}{ps:List (List UInt8)}{vl:List UInt8}{td:Bool}(h:ps.length≠if st=69 then 2 else 3):J8 st ps vl td=none:=by
 unfold J8;by_cases e:st=69
 ·rw[if_pos e]at h ⊢;match ps,h with
  |[],_=>rfl
  |[_],_=>rfl
  |[_,_],h=>exact absurd rfl h
  |_::_::_::_,_=>rfl
 rw[if_neg e]at h ⊢;match ps,h with
 |[],_=>rfl
 |[_],_=>rfl
 |[_,_],_=>rfl
 |[_,_,_],h=>exact absurd rfl h
 |_::_::_::_::_,_=>rfl
def Mc(a b:List UInt8)(n:Nat):Prop:=Cf a=some n/\1<=n/\n<=200/\At b=true
theorem Q9{st:UInt8}{a b:List UInt8}{r:List (List UInt8)}{vl:List UInt8}{td:Bool}(h:∀n,¬Mc a b n):J8 st (a::b::r) vl td=none:=by
 have h2:∀c,H4 (a::b::c)=none:=by
  intro c;match c with
  |[]=>
   cases hd:Cf a with
   |none=>simp only[H4,hd]
   |some n=>simp only[H4,hd];exact if_neg fun(e:1<=n/\n<=200/\At b=true)=>h n ⟨hd,e.1,e.2.1,e.2.2⟩
  |_::_=>rfl
 have h3:∀c,Jx (a::b::c)=none:=by
  intro c;match c with
  |[]=>rfl
  |[x]=>
   cases hd:Cf a with
   |none=>simp only[Jx,hd]
   |some n=>simp only[Jx,hd];exact if_neg fun(e:1<=n/\n<=200/\At b=true)=>h n ⟨hd,e.1,e.2.1,e.2.2⟩
  |_::_::_=>rfl
 unfold J8;rw[h2,h3];split<;>rfl
theorem Qeo{a b:List UInt8}{vl:List UInt8}{td:Bool}{n:Nat}(h:Mc a b n):J8 69 [a,b] vl td=if td=true then none else some ⟨n,b,Kd.nil,vl⟩:=by
 obtain⟨h1,h2,h3,h4⟩:=h;unfold J8 H4;simp[h1,h2,h3,h4]
theorem Qe5{st:UInt8}{a b c:List UInt8}{vl:List UInt8}{td:Bool}{n:Nat}(hst:st≠69)(h:Mc a b n):J8 st [a,b,c] vl td=(match Cg c with
   |some k=>if td=true/\¬(st=82/\k.signs=[]/\Bs k.base vl=true)then none else some ⟨n,b,k,vl⟩
   |none=>none):=by
 obtain⟨h1,h2,h3,h4⟩:=h;unfold J8 Jx;simp[h1,h2,h3,h4,hst]
theorem Qad{k:Kd}(h:Vv k):Qgq k.base:=by
 rcases h with⟨h,_⟩|⟨h|h|h,_⟩
 ·exact .inr (.inr (.inr h))
 ·exact .inl h
 ·exact .inr (.inl h)
 exact .inr (.inr (.inl h))
theorem Qg8{ps:List (List UInt8)}(h:ps.length=2):∃a b,ps=[a,b]:=by
 match ps,h with
 |[a,b],_=>exact⟨a,b,rfl⟩
theorem Qhd{ps:List (List UInt8)}(h:ps.length=3):∃a b c,ps=[a,b,c]:=by
 match ps,h with
 |[a,b,c],_=>exact⟨a,b,c,rfl⟩
theorem Qz{w:World}{b o n:Nat}(h:w.there b o n)(k:Nat):(w.drewN k).there b o n:=by
 induction k generalizing w with
 |zero=>exact h
 |succ k ih=>exact ih bg
theorem Qep(st:UInt8)(hst:st=69)(s:List UInt8)(w:World)(hs:s.length<=4000000):
  Calls prog 166 #[s,.int .u8 (st.toNat:Int)] w (Dl (Fv st s) w):=by
 have HF:=Aa (Vq st s);have Hcut:=Aa (fun W=>Po s 61 W aG);have hcl:=(Jj 61 s).1;have hvl:=(Jj 61 s).2;generalize Cr 61 s=r at HF Hcut hcl hvl;obtain⟨hd,vl,td⟩:=r;simp only at hcl hvl HF;have Hsp:=Aa (fun W=>Qe hd 58 W aG);have hne:=Ds 58 hd;have Hpl:=Aa (Ah 58 hd);generalize Ae 58 hd=ps at HF Hsp hne Hpl;have e69:((st.toNat:Int) == 69)=true:=Bj hst;have n69:((st.toNat:Int) != 69)=false:=J2 hst;have Hst0:=Aa hst;clear hst;go_enter func166,ntmps166;go_wp2_with fail;refine(Hcut.o _).mono ?_;rintro e w1 ⟨rfl,k1,rfl⟩;unfold Y8;go_wp2_with fail;refine(Hsp.o _).mono ?_;rintro e w2 ⟨v,rfl,ho,hb⟩;obtain⟨g,c,rfl,hg1,hg2,hcells⟩:=Kt ho hne;have hzz:w.heap.size<w2.heap.size:=by have:=hb.size;simp at this;omega
 have HT:=@Aa (w2.there w 0 6) (As (Qz (Cx w [.int .i64 0,a8,a8,a8,a8,a8] 105) k1) aK hb);have Hb:=@Aa (Below w w w2) ((below_drewN ((Au w.heap.size w).alloc (Ap _) _) k1).trans (hb.mono aK));have Hcells:=Aa hcells;clear hb ho hcells hne;by_cases hlen:ps.length=2
 ·obtain⟨a,b,rfl⟩:=Qg8 hlen;have c0:=Hcells.o 0 aK;have c1:=Hcells.o 1 aK;simp at c0 c1;have la:a.length<=4000000:=by have:=Hpl.o a aK;omega
  have lb:b.length<=4000000:=by have:=Hpl.o b aK;omega
  clear Hpl Hcells hlen;have hpn:=fun W=>(show Calls prog 175 #[a,.int .i64 200] W fun e w'=>e=.returned (pnV a 200)/\W=w' from Fr a 200 W aG aJ)
  have Hhead:=@Aa (∀n,Mc a b n↔Cf a=some n/\1<=n/\n<=200/\At b=true) (fun n=>Iff.rfl);have Hno:=Aa (fun(h:∀n,¬Mc a b n)=>HF.o.trans (Q9 h));generalize hda:Cf a=od at *;have Hda:=Aa hda;clear hda;cases od with
  |none=>
   have Hpn:=Aa (fun W=>(Pk (m:=200) Hda.o) ▸ hpn W);clear hpn;go_wp2_with fail;refine(Hpn.o _).mono ?_;rintro e w3 ⟨rfl,rfl⟩;go_wp2_with ((with_reducible refine Ad (op:=⟨none,.store 105 _ _,_,_,_,none⟩) rfl 105 _ _ rfl w 0 [.int .i64 0,a8,a8,a8,a8,a8] ?_ ?_ ?_ ?_ ?_ ?_);rfl;rfl;(first|exact aq HT.o _|exact HT.o);kernel_rfl;(simp[Value.oneCell']);intro w9 HS9)
   have HZ:=@Aa (w9.rangeAt w 0 [.int .i64 0,a8,a8,a8,a8,a8]) bc;refine aE (v:=.tuple #[.agg ([.int .i64 0,a8,a8,a8,a8,a8]:List Value).toArray,.bool false]) ?_ rfl ?_
   ·exact f9
   exact hM
  |some n=>
   have Hpn:=Aa (fun W=>(Ro (m:=200) Hda.o) ▸ hpn W);clear hpn;have hn9:n<=999999:=(Bt.1 Hda.o).1;rcases aF 200 n with h200|h200
   ·exact fg
   have Hdec:=Aa (show decide (n<=200)=true by simp;omega);rw[Hdec.o]at Hpn;rcases Nat.eq_zero_or_pos n with h0|h0
   ·exact fh
   have hlt1:decide ((n:Int)<1)=false:=dj;have Hname:=Aa (fun W=>Jd b W aG);generalize hnb:At b=nb at *;have Hnb:=Aa hnb;clear hnb;go_wp2_with fail;refine(Hpn.o _).mono ?_;rintro e w3 ⟨rfl,rfl⟩;go_wp2_with fail;refine(Hname.o _).mono ?_;rintro e w4 ⟨rfl,hb4⟩;have hz4:w2.heap.size<w4.heap.size:=eC;have HT4:=@Aa (w4.there w 0 6) (As (aq HT.o _) aN hb4);have HR4:=@Aa (w4.rangeAt w2 0 [(n:Int),b,a8,a8,a8,vl]) (Ba (Ch w2 _ _) aK hb4);have HK4:=@Aa (w4.there w2 0 6) (As (Cx w2 [(n:Int),b,a8,a8,a8,vl] _) aK hb4);have Hb4:=@Aa (Below w w w4) ((Hb.o.alloc Hb.o.size _).trans (hb4.mono aN));clear hb4;cases nb with
   |false=>
    go_wp2_with ((with_reducible refine Ad (op:=⟨none,.store 105 _ _,_,_,_,none⟩) rfl 105 _ _ rfl w 0 [.int .i64 0,a8,a8,a8,a8,a8] ?_ ?_ ?_ ?_ ?_ ?_);rfl;rfl;(first|exact aq HT4.o _|exact HT4.o);kernel_rfl;(simp[Value.oneCell']);intro w9 HS9)
    have HZ:=@Aa (w9.rangeAt w 0 [.int .i64 0,a8,a8,a8,a8,a8]) bN;refine aE (v:=.tuple #[.agg ([.int .i64 0,a8,a8,a8,a8,a8]:List Value).toArray,.bool false]) ?_ rfl ?_
    ·exact f9
    exact hO
   |true=>
    have Hok:=@Aa (Mc a b n) ((Hhead.o n).2 ⟨rfl,h0,h200,rfl⟩);have HF2:=Aa (HF.o.trans (show J8 st [a,b] vl td=if td=true then none else some ⟨n,b,Kd.nil,vl⟩from by rw[Hst0.o];exact Qeo Hok.o));clear Hno Hhead HF;have n82:((st.toNat:Int) != 82)=true:=M5 (c:=st) (d:=82) (by rw[Hst0.o];decide);cases td with
    |true=>
     go_wp2_with ((with_reducible refine Ad (op:=⟨none,.store 105 _ _,_,_,_,none⟩) rfl 105 _ _ rfl w 0 [.int .i64 0,a8,a8,a8,a8,a8] ?_ ?_ ?_ ?_ ?_ ?_);rfl;rfl;(first|exact aq HT4.o _|exact HT4.o);kernel_rfl;(simp[Value.oneCell']);intro w9 HS9)
     have HZ:=@Aa (w9.rangeAt w 0 [.int .i64 0,a8,a8,a8,a8,a8]) bN;refine aE (v:=.tuple #[.agg ([.int .i64 0,a8,a8,a8,a8,a8]:List Value).toArray,.bool false]) ?_ rfl ?_
     ·exact f9
     exact Dl.no (HF2.o.trans aK) rfl bq
    |false=>
     go_wp2_with (first|((with_reducible refine Ad (op:=⟨none,.store 105 _ _,_,_,_,none⟩) rfl 105 _ _ rfl w 0 [(n:Int),b,a8,a8,a8,vl] ?_ ?_ ?_ ?_ ?_ ?_);rfl;rfl;(first|exact aq HT4.o _|exact HT4.o);kernel_rfl;(simp[Value.oneCell']);intro w9 HS9)|((with_reducible refine wpList_load_mid (op:=⟨_,.load 105 _,_,_,_,none⟩) rfl 105 _ rfl w2 0 ?_ [(n:Int),b,a8,a8,a8,vl] _ HR4.o underlying105 ?_ ?_ ?_);rfl;rfl;kernel_rfl))
     have HZ:=@Aa (w9.rangeAt w 0 [(n:Int),b,a8,a8,a8,vl]) bN;refine aE (v:=.tuple #[.agg ([(n:Int),b,a8,a8,a8,vl]:List Value).toArray,.bool true]) ?_ rfl ?_
     ·exact Ao results166 _ _ w.heap.size [(n:Int),b,a8,a8,a8,vl] _ _ rfl rfl HZ.o underlying105 rfl aM
     exact Dl.yes (HF2.o.trans (if_neg (fun h=>by cases h))) rfl bq
 have Hno:=Aa (HF.o.trans (Sd (vl:=vl) (td:=td) (st:=st) (ps:=ps) (by rw[if_pos Hst0.o];exact hlen)));have hl1:¬(ps.length:Int)=2:=aG;have hl2:((ps.length:Int) != 2)=true:=by rw[bne_iff_ne];exact hl1
 clear HF Hpl Hcells;go_wp2_with ((with_reducible refine Ad (op:=⟨none,.store 105 _ _,_,_,_,none⟩) rfl 105 _ _ rfl w 0 [.int .i64 0,a8,a8,a8,a8,a8] ?_ ?_ ?_ ?_ ?_ ?_);rfl;rfl;(first|exact aq HT.o _|exact HT.o);kernel_rfl;(simp[Value.oneCell']);intro w9 HS9)
 have HZ:=@Aa (w9.rangeAt w 0 [.int .i64 0,a8,a8,a8,a8,a8]) bc;refine aE (v:=.tuple #[.agg ([.int .i64 0,a8,a8,a8,a8,a8]:List Value).toArray,.bool false]) ?_ rfl ?_
 ·exact f9
 exact Dl.no Hno.o rfl aV
theorem Qfi(st:UInt8)(hst:st≠69)(s:List UInt8)(w:World)(hs:s.length<=4000000):
  Calls prog 166 #[s,.int .u8 (st.toNat:Int)] w (Dl (Fv st s) w):=by
 have HF:=Aa (Vq st s);have Hcut:=Aa (fun W=>Po s 61 W aG);have hcl:=(Jj 61 s).1;have hvl:=(Jj 61 s).2;generalize Cr 61 s=r at HF Hcut hcl hvl;obtain⟨hd,vl,td⟩:=r;simp only at hcl hvl HF;have Hsp:=Aa (fun W=>Qe hd 58 W aG);have hne:=Ds 58 hd;have Hpl:=Aa (Ah 58 hd);generalize Ae 58 hd=ps at HF Hsp hne Hpl;have e69:((st.toNat:Int) == 69)=false:=Ak hst;have n69:((st.toNat:Int) != 69)=true:=M5 hst;have Hst0:=Aa hst;clear hst;go_enter func166,ntmps166;go_wp2_with fail;refine(Hcut.o _).mono ?_;rintro e w1 ⟨rfl,k1,rfl⟩;unfold Y8;go_wp2_with fail;refine(Hsp.o _).mono ?_;rintro e w2 ⟨v,rfl,ho,hb⟩;obtain⟨g,c,rfl,hg1,hg2,hcells⟩:=Kt ho hne;have hzz:w.heap.size<w2.heap.size:=by have:=hb.size;simp at this;omega
 have HT:=@Aa (w2.there w 0 6) (As (Qz (Cx w [.int .i64 0,a8,a8,a8,a8,a8] 105) k1) aK hb);have Hb:=@Aa (Below w w w2) ((below_drewN ((Au w.heap.size w).alloc (Ap _) _) k1).trans (hb.mono aK));have Hcells:=Aa hcells;clear hb ho hcells hne;by_cases hlen:ps.length=3
 ·obtain⟨a,b,d,rfl⟩:=Qhd hlen;have c0:=Hcells.o 0 aK;have c1:=Hcells.o 1 aK;have c2:=Hcells.o 2 aK;simp at c0 c1 c2;have la:a.length<=4000000:=by have:=Hpl.o a aK;omega
  have lb:b.length<=4000000:=by have:=Hpl.o b aK;omega
  have ld:d.length<=4000000:=by have:=Hpl.o d aK;omega
  clear Hpl Hcells hlen;have hpn:=fun W=>(show Calls prog 175 #[a,.int .i64 200] W fun e w'=>e=.returned (pnV a 200)/\W=w' from Fr a 200 W aG aJ)
  have Hhead:=@Aa (∀n,Mc a b n↔Cf a=some n/\1<=n/\n<=200/\At b=true) (fun n=>Iff.rfl);have Hno:=Aa (fun(h:∀n,¬Mc a b n)=>HF.o.trans (Q9 h));generalize hda:Cf a=od at *;have Hda:=Aa hda;clear hda;cases od with
  |none=>
   have Hpn:=Aa (fun W=>(Pk (m:=200) Hda.o) ▸ hpn W);clear hpn;go_wp2_with fail;refine(Hpn.o _).mono ?_;rintro e w3 ⟨rfl,rfl⟩;go_wp2_with ((with_reducible refine Ad (op:=⟨none,.store 105 _ _,_,_,_,none⟩) rfl 105 _ _ rfl w 0 [.int .i64 0,a8,a8,a8,a8,a8] ?_ ?_ ?_ ?_ ?_ ?_);rfl;rfl;(first|exact aq HT.o _|exact HT.o);kernel_rfl;(simp[Value.oneCell']);intro w9 HS9)
   have HZ:=@Aa (w9.rangeAt w 0 [.int .i64 0,a8,a8,a8,a8,a8]) bc;refine aE (v:=.tuple #[.agg ([.int .i64 0,a8,a8,a8,a8,a8]:List Value).toArray,.bool false]) ?_ rfl ?_
   ·exact f9
   exact hM
  |some n=>
   have Hpn:=Aa (fun W=>(Ro (m:=200) Hda.o) ▸ hpn W);clear hpn;have hn9:n<=999999:=(Bt.1 Hda.o).1;rcases aF 200 n with h200|h200
   ·exact fg
   have Hdec:=Aa (show decide (n<=200)=true by simp;omega);rw[Hdec.o]at Hpn;rcases Nat.eq_zero_or_pos n with h0|h0
   ·exact fh
   have hlt1:decide ((n:Int)<1)=false:=dj;have Hname:=Aa (fun W=>Jd b W aG);generalize hnb:At b=nb at *;have Hnb:=Aa hnb;clear hnb;go_wp2_with fail;refine(Hpn.o _).mono ?_;rintro e w3 ⟨rfl,rfl⟩;go_wp2_with fail;refine(Hname.o _).mono ?_;rintro e w4 ⟨rfl,hb4⟩;have hz4:w2.heap.size<w4.heap.size:=eC;have HT4:=@Aa (w4.there w 0 6) (As (aq HT.o _) aN hb4);have HR4:=@Aa (w4.rangeAt w2 0 [(n:Int),b,a8,a8,a8,vl]) (Ba (Ch w2 _ _) aK hb4);have HK4:=@Aa (w4.there w2 0 6) (As (Cx w2 [(n:Int),b,a8,a8,a8,vl] _) aK hb4);have Hb4:=@Aa (Below w w w4) ((Hb.o.alloc Hb.o.size _).trans (hb4.mono aN));have c2x:w4.cell? (g,2)=d:=(hb4.cell (p:=⟨g,2,none⟩) aN).trans (by rw[World.cell?_alloc_old _ _ _ aN];exact c2);clear hb4;cases nb with
   |false=>
    go_wp2_with ((with_reducible refine Ad (op:=⟨none,.store 105 _ _,_,_,_,none⟩) rfl 105 _ _ rfl w 0 [.int .i64 0,a8,a8,a8,a8,a8] ?_ ?_ ?_ ?_ ?_ ?_);rfl;rfl;(first|exact aq HT4.o _|exact HT4.o);kernel_rfl;(simp[Value.oneCell']);intro w9 HS9)
    have HZ:=@Aa (w9.rangeAt w 0 [.int .i64 0,a8,a8,a8,a8,a8]) bN;refine aE (v:=.tuple #[.agg ([.int .i64 0,a8,a8,a8,a8,a8]:List Value).toArray,.bool false]) ?_ rfl ?_
    ·exact f9
    exact hO
   |true=>
    have Hok:=@Aa (Mc a b n) ((Hhead.o n).2 ⟨rfl,h0,h200,rfl⟩);have HF2:=Aa (HF.o.trans (Qe5 (c:=d) (vl:=vl) (td:=td) Hst0.o Hok.o));clear Hno Hhead HF;have Hkd:=Aa (fun W=>Pt d W ld);have Hkok:=Aa (fun k (h:Cg d=some k)=>(D7.1 h).1);generalize Cg d=ok at HF2 Hkd Hkok;go_wp2_with fail;refine(Hkd.o _).mono ?_;rintro e w5 ⟨hcase,hb5⟩;have HT5:=@Aa (w5.there w 0 6) (As HT4.o aG hb5);have HR5:=@Aa (w5.rangeAt w2 0 _) (Ba HR4.o hz4 hb5);have HK5:=@Aa (w5.there w2 0 6) (As HK4.o hz4 hb5);have Hb5:=Aa (Hb4.o.trans (hb5.mono Hb4.o.size));have hz5:w2.heap.size<w5.heap.size:=ac hz4 hb5.size;clear hb5;cases ok with
    |none=>
     obtain⟨a1,a2,a3,rfl⟩:=hcase;go_wp2_with (first|((with_reducible refine Ad (op:=⟨none,.store 62 _ _,_,_,_,none⟩) rfl 62 _ _ rfl w2 2 [.string a1,.string a2,.string a3] ?_ ?_ ?_ ?_ ?_ ?_);rfl;rfl;(exact H9 HK5.o 2 3 aJ aJ);kernel_rfl;(simp[Value.oneCell']);intro w6 HS6;have HT6:=@Aa (w6.there w 0 6) (HS6.o ▸ ai HT5.o _ _ _);have HR6:=@Aa (w6.rangeAt w2 0 [(n:Int),b,.string a1,.string a2,.string a3,vl]) (HS6.o ▸ Cs [(n:Int),b] [a8,a8,a8] [vl] [.string a1,.string a2,.string a3] HR5.o rfl);have Hb6:=@Aa (Below w w w6) (HS6.o ▸ Af _ (Nat.le_of_lt hzz) _ _ _ Hb5.o);have hz6:w2.heap.size<w6.heap.size:=cP;have z2:w6.cell? (w2,2)=some (.string a1):=cx;have z3:w6.cell? (w2,3)=some (.string a2):=cy;clear HT5 HR5 HK5 HS6)|((with_reducible refine Ad (op:=⟨none,.store 105 _ _,_,_,_,none⟩) rfl 105 _ _ rfl w 0 [.int .i64 0,a8,a8,a8,a8,a8] ?_ ?_ ?_ ?_ ?_ ?_);rfl;rfl;(first|exact aq HT6.o _|exact HT6.o);kernel_rfl;(simp[Value.oneCell']);intro w9 HS9))
     have HZ:=@Aa (w9.rangeAt w 0 [.int .i64 0,a8,a8,a8,a8,a8]) bO;refine aE (v:=.tuple #[.agg ([.int .i64 0,a8,a8,a8,a8,a8]:List Value).toArray,.bool false]) ?_ rfl ?_
     ·exact f9
     exact Dl.no HF2.o rfl br
    |some k=>
     have hcase':e=.returned (.tuple #[.agg #[k.signs,k.base,k.name],.bool true]):=hcase;subst hcase';clear hcase;have Hkk:=Aa (Hkok.o k rfl);have HF3:=@Aa (Fv st s=if td=true/\¬(st=82/\k.signs=[]/\Bs k.base vl=true)then none else some ⟨n,b,k,vl⟩) HF2.o;clear HF2 Hkok;cases td with
     |false=>
      go_wp2_with (first|((with_reducible refine Ad (op:=⟨none,.store 62 _ _,_,_,_,none⟩) rfl 62 _ _ rfl w2 2 [k.signs,k.base,k.name] ?_ ?_ ?_ ?_ ?_ ?_);rfl;rfl;(exact H9 HK5.o 2 3 aJ aJ);kernel_rfl;(simp[Value.oneCell']);intro w6 HS6;have HT6:=@Aa (w6.there w 0 6) (HS6.o ▸ ai HT5.o _ _ _);have HR6:=@Aa (w6.rangeAt w2 0 [(n:Int),b,k.signs,k.base,k.name,vl]) (HS6.o ▸ Cs [(n:Int),b] [a8,a8,a8] [vl] [k.signs,k.base,k.name] HR5.o rfl);have Hb6:=@Aa (Below w w w6) (HS6.o ▸ Af _ (Nat.le_of_lt hzz) _ _ _ Hb5.o);have hz6:w2.heap.size<w6.heap.size:=cP;have z2:w6.cell? (w2,2)=k.signs:=cx;have z3:w6.cell? (w2,3)=k.base:=cy;clear HT5 HR5 HK5 HS6)|((with_reducible refine Ad (op:=⟨none,.store 105 _ _,_,_,_,none⟩) rfl 105 _ _ rfl w 0 [(n:Int),b,k.signs,k.base,k.name,vl] ?_ ?_ ?_ ?_ ?_ ?_);rfl;rfl;(first|exact aq HT6.o _|exact HT6.o);kernel_rfl;(simp[Value.oneCell']);intro w9 HS9)|((with_reducible refine wpList_load_mid (op:=⟨_,.load 105 _,_,_,_,none⟩) rfl 105 _ rfl w2 0 ?_ [(n:Int),b,k.signs,k.base,k.name,vl] _ HR6.o underlying105 ?_ ?_ ?_);rfl;rfl;kernel_rfl))
      have HZ:=@Aa (w9.rangeAt w 0 [(n:Int),b,k.signs,k.base,k.name,vl]) bO;refine aE (v:=.tuple #[.agg ([(n:Int),b,k.signs,k.base,k.name,vl]:List Value).toArray,.bool true]) ?_ rfl ?_
      ·exact fY
      exact Dl.yes (HF3.o.trans (if_neg aK)) rfl br
     |true=>
      rcases Decidable.em (st=82)with h82|h82
      ·have n82:((st.toNat:Int) != 82)=false:=J2 (c:=st) (d:=82) h82;rcases Decidable.em (k.signs=[])with hsg|hsg
       ·have hsg1:(k.signs != [])=false:=cq;have hsg2:k.signs.isEmpty=true:=cq;have hsg3:(!k.signs.isEmpty)=false:=cq;have hbl:=Qad Hkk.o.2.1;have Hst:=Aa (fun W=>Xx k.base vl W hbl aG)
        have Hst2:=Aa (show Fv st s=if Bs k.base vl=true then some ⟨n,b,k,vl⟩else none from by
         rw[HF3.o];by_cases hh:Bs k.base vl=true
         ·rw[if_neg (by simp[h82,hsg,hh]),if_pos hh]
         rw[if_pos (by simp[hh]),if_neg hh])
        generalize Bs k.base vl=sb at Hst Hst2;clear hsg h82 hbl;go_wp2_with ((with_reducible refine Ad (op:=⟨none,.store 62 _ _,_,_,_,none⟩) rfl 62 _ _ rfl w2 2 [k.signs,k.base,k.name] ?_ ?_ ?_ ?_ ?_ ?_);rfl;rfl;(exact H9 HK5.o 2 3 aJ aJ);kernel_rfl;(simp[Value.oneCell']);intro w6 HS6;have HT6:=@Aa (w6.there w 0 6) (HS6.o ▸ ai HT5.o _ _ _);have HR6:=@Aa (w6.rangeAt w2 0 [(n:Int),b,k.signs,k.base,k.name,vl]) (HS6.o ▸ Cs [(n:Int),b] [a8,a8,a8] [vl] [k.signs,k.base,k.name] HR5.o rfl);have Hb6:=@Aa (Below w w w6) (HS6.o ▸ Af _ (Nat.le_of_lt hzz) _ _ _ Hb5.o);have hz6:w2.heap.size<w6.heap.size:=cP;have z2:w6.cell? (w2,2)=k.signs:=cx;have z3:w6.cell? (w2,3)=k.base:=cy;clear HT5 HR5 HK5 HS6)
        refine(Hst.o _).mono ?_;rintro e w7 ⟨rfl,hb7⟩;have HT7:=@Aa (w7.there w 0 6) (As HT6.o aG hb7);have HR7:=@Aa (w7.rangeAt w2 0 _) (Ba HR6.o hz6 hb7);have Hb7:=Aa (Hb6.o.trans (hb7.mono Hb6.o.size));clear hb7 z2 z3;cases sb with
        |true=>
         go_wp2_with (first|((with_reducible refine Ad (op:=⟨none,.store 105 _ _,_,_,_,none⟩) rfl 105 _ _ rfl w 0 [(n:Int),b,k.signs,k.base,k.name,vl] ?_ ?_ ?_ ?_ ?_ ?_);rfl;rfl;(first|exact aq HT7.o _|exact HT7.o);kernel_rfl;(simp[Value.oneCell']);intro w9 HS9)|((with_reducible refine wpList_load_mid (op:=⟨_,.load 105 _,_,_,_,none⟩) rfl 105 _ rfl w2 0 ?_ [(n:Int),b,k.signs,k.base,k.name,vl] _ HR7.o underlying105 ?_ ?_ ?_);rfl;rfl;kernel_rfl))
         have HZ:=@Aa (w9.rangeAt w 0 [(n:Int),b,k.signs,k.base,k.name,vl]) dp;refine aE (v:=.tuple #[.agg ([(n:Int),b,k.signs,k.base,k.name,vl]:List Value).toArray,.bool true]) ?_ rfl ?_
         ·exact fY
         exact Dl.yes (Hst2.o.trans (if_pos aK)) rfl cL
        |false=>
         go_wp2_with ((with_reducible refine Ad (op:=⟨none,.store 105 _ _,_,_,_,none⟩) rfl 105 _ _ rfl w 0 [.int .i64 0,a8,a8,a8,a8,a8] ?_ ?_ ?_ ?_ ?_ ?_);rfl;rfl;(first|exact aq HT7.o _|exact HT7.o);kernel_rfl;(simp[Value.oneCell']);intro w9 HS9)
         have HZ:=@Aa (w9.rangeAt w 0 [.int .i64 0,a8,a8,a8,a8,a8]) dp;refine aE (v:=.tuple #[.agg ([.int .i64 0,a8,a8,a8,a8,a8]:List Value).toArray,.bool false]) ?_ rfl ?_
         ·exact f9
         exact Dl.no (Hst2.o.trans (if_neg aJ)) rfl cL
       have hsg1:(k.signs != [])=true:=cq;have hsg2:k.signs.isEmpty=false:=cq;have hsg3:(!k.signs.isEmpty)=true:=cq;have Hw:=Aa (HF3.o.trans (if_pos ⟨rfl,fun h=>hsg h.2.1⟩));clear hsg h82;go_wp2_with (first|((with_reducible refine Ad (op:=⟨none,.store 62 _ _,_,_,_,none⟩) rfl 62 _ _ rfl w2 2 [k.signs,k.base,k.name] ?_ ?_ ?_ ?_ ?_ ?_);rfl;rfl;(exact H9 HK5.o 2 3 aJ aJ);kernel_rfl;(simp[Value.oneCell']);intro w6 HS6;have HT6:=@Aa (w6.there w 0 6) (HS6.o ▸ ai HT5.o _ _ _);have HR6:=@Aa (w6.rangeAt w2 0 [(n:Int),b,k.signs,k.base,k.name,vl]) (HS6.o ▸ Cs [(n:Int),b] [a8,a8,a8] [vl] [k.signs,k.base,k.name] HR5.o rfl);have Hb6:=@Aa (Below w w w6) (HS6.o ▸ Af _ (Nat.le_of_lt hzz) _ _ _ Hb5.o);have hz6:w2.heap.size<w6.heap.size:=cP;have z2:w6.cell? (w2,2)=k.signs:=cx;have z3:w6.cell? (w2,3)=k.base:=cy;clear HT5 HR5 HK5 HS6)|((with_reducible refine Ad (op:=⟨none,.store 105 _ _,_,_,_,none⟩) rfl 105 _ _ rfl w 0 [.int .i64 0,a8,a8,a8,a8,a8] ?_ ?_ ?_ ?_ ?_ ?_);rfl;rfl;(first|exact aq HT6.o _|exact HT6.o);kernel_rfl;(simp[Value.oneCell']);intro w9 HS9))
       have HZ:=@Aa (w9.rangeAt w 0 [.int .i64 0,a8,a8,a8,a8,a8]) bO;refine aE (v:=.tuple #[.agg ([.int .i64 0,a8,a8,a8,a8,a8]:List Value).toArray,.bool false]) ?_ rfl ?_
       ·exact f9
       exact Dl.no Hw.o rfl br
      have n82:((st.toNat:Int) != 82)=true:=M5 (c:=st) (d:=82) h82;have Hw:=Aa (HF3.o.trans (if_pos ⟨rfl,fun h=>h82 h.1⟩));clear h82;go_wp2_with (first|((with_reducible refine Ad (op:=⟨none,.store 62 _ _,_,_,_,none⟩) rfl 62 _ _ rfl w2 2 [k.signs,k.base,k.name] ?_ ?_ ?_ ?_ ?_ ?_);rfl;rfl;(exact H9 HK5.o 2 3 aJ aJ);kernel_rfl;(simp[Value.oneCell']);intro w6 HS6;have HT6:=@Aa (w6.there w 0 6) (HS6.o ▸ ai HT5.o _ _ _);have HR6:=@Aa (w6.rangeAt w2 0 [(n:Int),b,k.signs,k.base,k.name,vl]) (HS6.o ▸ Cs [(n:Int),b] [a8,a8,a8] [vl] [k.signs,k.base,k.name] HR5.o rfl);have Hb6:=@Aa (Below w w w6) (HS6.o ▸ Af _ (Nat.le_of_lt hzz) _ _ _ Hb5.o);have hz6:w2.heap.size<w6.heap.size:=cP;have z2:w6.cell? (w2,2)=k.signs:=cx;have z3:w6.cell? (w2,3)=k.base:=cy;clear HT5 HR5 HK5 HS6)|((with_reducible refine Ad (op:=⟨none,.store 105 _ _,_,_,_,none⟩) rfl 105 _ _ rfl w 0 [.int .i64 0,a8,a8,a8,a8,a8] ?_ ?_ ?_ ?_ ?_ ?_);rfl;rfl;(first|exact aq HT6.o _|exact HT6.o);kernel_rfl;(simp[Value.oneCell']);intro w9 HS9))
      have HZ:=@Aa (w9.rangeAt w 0 [.int .i64 0,a8,a8,a8,a8,a8]) bO;refine aE (v:=.tuple #[.agg ([.int .i64 0,a8,a8,a8,a8,a8]:List Value).toArray,.bool false]) ?_ rfl ?_
      ·exact f9
      exact Dl.no Hw.o rfl br
 have Hno:=Aa (HF.o.trans (Sd (vl:=vl) (td:=td) (st:=st) (ps:=ps) (by rw[if_neg Hst0.o];exact hlen)));have hl1:¬(ps.length:Int)=3:=aG;have hl2:((ps.length:Int) != 3)=true:=by rw[bne_iff_ne];exact hl1
 clear HF Hpl Hcells;go_wp2_with ((with_reducible refine Ad (op:=⟨none,.store 105 _ _,_,_,_,none⟩) rfl 105 _ _ rfl w 0 [.int .i64 0,a8,a8,a8,a8,a8] ?_ ?_ ?_ ?_ ?_ ?_);rfl;rfl;(first|exact aq HT.o _|exact HT.o);kernel_rfl;(simp[Value.oneCell']);intro w9 HS9)
 have HZ:=@Aa (w9.rangeAt w 0 [.int .i64 0,a8,a8,a8,a8,a8]) bc;refine aE (v:=.tuple #[.agg ([.int .i64 0,a8,a8,a8,a8,a8]:List Value).toArray,.bool false]) ?_ rfl ?_
 ·exact f9
 exact Dl.no Hno.o rfl aV
end
end Go.Proofs.YtpjijpcemejlnaaGreatDoor
