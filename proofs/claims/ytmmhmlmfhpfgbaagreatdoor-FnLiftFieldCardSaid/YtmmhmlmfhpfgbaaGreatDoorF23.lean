/- Texts joined. Conditions: as each theorem names them. -/
import Derived.BigRegion
import Derived.BigQuiet
import Derived.Deep.QuietTactic
import Derived.Test.YtmmhmlmfhpfgbaaGreatDoorF21
set_option maxRecDepth 100000
set_option maxHeartbeats 32000000
set_option linter.unusedVariables false
set_option linter.unusedSimpArgs false
namespace Go.Proofs.YtmmhmlmfhpfgbaaGreatDoor
open Go.RowKit Go.Proofs.Tryz
def Ka(x:Vl × Value):List Value:=[.int .u8 (x.1.what.toNat:Int),x.1.text,(x.1.tag:Int),x.2]
def Ec(v:Vl)(sl:Value):Value:=.agg #[.int .u8 (v.what.toNat:Int),v.text,(v.tag:Int),sl]
theorem Qg4(x:Vl × Value):(Ka x).length=4:=rfl
def Bc(xs:List (Vl × Value)):List Vl:=xs.map (·.1)
inductive Ea(P:Nat->Prop)(w:World):Value->List Vl->Prop
 |mk {v:Value} {ks:List Vl} (A:Option Addr) (c:Nat) (xs:List (Vl × Value)) (hv:v=.slice A xs.length c) (hk:ks=Bc xs) (hl:xs.length<=1000) (hr:B0 w A (xs.length*4) (xs.flatMap Ka))
   (hP:∀g o,0<xs.length->A=some ⟨g,o,none⟩->P g) (h:∀x∈xs,Ea P w x.2 x.1.kids):Ea P w v ks
theorem Ea.kept{P Q:Nat->Prop}{w w':World}{v:Value}{ks:List Vl}(h:Ea P w v ks)(hc:∀b o u,P b->b<w.heap.size->w.cell? ⟨b,o,none⟩=some u->w'.cell? ⟨b,o,none⟩=some u)
  (hz:w.heap.size<=w'.heap.size) (hQ:∀b,P b->b<w.heap.size->Q b):Ea Q w' v ks:=by
 induction h with
 |mk A c xs hv hk hl hr hP h ih=>
  refine .mk A c xs hv hk hl ⟨hr.1,hr.2.1,fun hn=>?_⟩ (fun g o hn e=>?_) ih
  ·obtain⟨b,off,e,hlt,hcs⟩:=hr.2.2 hn;exact⟨b,off,e,by omega,fun j u hu=>hc b _ u (hP b off aH e) hlt (hcs j u hu)⟩
  obtain⟨b,off,e2,hlt,_⟩:=hr.2.2 aH;rw[e]at e2;injection e2 with e2;injection e2 with e2 _ _;subst e2;exact hQ g (hP g o hn e) hlt
theorem Ea.after{P:Nat->Prop}{w w':World}{v:Value}{ks:List Vl}(h:Ea P w v ks)(hb:Below w w w'):Ea P w' v ks:=
 h.kept (fun b o u _ hl hu=>(hb.cell (p:=⟨b,o,none⟩) hl).trans hu) hb.size fun _ h _=>h
theorem Ea.mono{P Q:Nat->Prop}{w:World}{v:Value}{ks:List Vl}(h:Ea P w v ks)(hQ:∀b,P b->b<w.heap.size->Q b):Ea Q w v ks:=h.kept (fun _ _ _ _ _ hu=>hu) (An _) hQ
theorem Ea.grown{P:Nat->Prop}{w w':World}{v:Value}{ks:List Vl}{row:Option Nat}(h:Ea P w v ks)(hg:w.grownBy w' row)(hne:∀b,P b->some b≠row):Ea P w' v ks:=
 h.kept (fun b o u hp _ hu=>hg.cell hu (hne b hp)) hg.size fun _ h _=>h
theorem Ea.nil(P:Nat->Prop)(w:World):Ea P w (.slice none 0 0) []:=.mk none 0 [] rfl rfl aK ⟨rfl,ag _,fun h=>absurd h aK⟩ (fun _ _ h=>absurd h aK) aK
theorem Ea.form{P:Nat->Prop}{w:World}{v:Value}{ks:List Vl}(h:Ea P w v ks):∃A c,v=.slice A ks.length c:=by
 obtain⟨A,c,xs,rfl,rfl,_,_,_,_⟩:=h;exact⟨A,c,by simp[Bc]⟩
theorem Ea.at_{w:World}{A:Option Addr}{xs:List (Vl × Value)}(hr:B0 w A (xs.length*4) (xs.flatMap Ka)){i:Nat}(hi:i<xs.length):
  ∃b off,A=some ⟨b,off,none⟩/\b<w.heap.size/\w.cell? ⟨b,off+i*4,none⟩=some (.int .u8 (xs[i].1.what.toNat:Int))/\w.cell? ⟨b,off+i*4+1,none⟩=some (.string ⟨xs[i].1.text.toArray⟩) /\
   w.cell? ⟨b,off+i*4+2,none⟩=some (.int .i64 (xs[i].1.tag:Int))/\w.cell? ⟨b,off+i*4+3,none⟩=some xs[i].2:=by
 obtain⟨b,off,e,hlt,hc⟩:=hr.elem Qg4 aJ hi;refine⟨b,off,e,hlt,?_,?_,?_,?_⟩
 ·exact jx
 ·exact jf
 ·exact jq
 have:=hc 3 _ rfl;simpa [Nat.add_assoc]using this
section
attribute [local go_sem] Qoe Qnf Qmu Qk2 ByteArray.mk_append_mk
def H6(w:World)(b:Nat)(p:Value)(t:List UInt8)(bad:Bool):Prop:=b<w.heap.size/\Qe w b/\w.cell? (b,0)=some p/\w.cell? (b,1)=t/\w.cell? (b,2)=some (.bool bad)
theorem Qe.live{w:World}{b:Nat}(h:Qe w b)(o:Nat):w.frozen? ⟨b,o,none⟩=false:=by
 obtain⟨cs,t,h⟩:=h;simp[World.frozen?,h]
theorem H6.far{w w':World}{b:Nat}{p:Value}{t:List UInt8}{bad:Bool}(h:H6 w b p t bad){B:Nat}(hb:Below B w w')(hB:b<B):H6 w' b p t bad:=by
 obtain⟨h0,h1,h2,h3,h4⟩:=h;exact⟨ac h0 hb.size,h1.belowAt hB hb,(hb.cell (p:=⟨b,0,none⟩) hB).trans h2,(hb.cell (p:=⟨b,1,none⟩) hB).trans h3,(hb.cell (p:=⟨b,2,none⟩) hB).trans h4⟩
theorem H6.drew{w:World}{b:Nat}{p:Value}{t:List UInt8}{bad:Bool}(h:H6 w b p t bad)(k:Nat):H6 (w.drewN k) b p t bad:=h.far (below_drewN (Ao w.heap.size w) k) h.1
theorem H6.setBad{w:World}{b:Nat}{p:Value}{t:List UInt8}{bad:Bool}(h:H6 w b p t bad)(x:Bool):H6 (w.setCell ⟨b,2,none⟩ (.bool x)) b p t x:=by
 obtain⟨h0,h1,h2,h3,h4⟩:=h;have hf:=h1.live 2;exact⟨by simpa using h0,h1.set _,by simp[go_sem,h2],by simp[go_sem,h3],by simp[go_sem,h4,hf]⟩
theorem H6.setText{w:World}{b:Nat}{p:Value}{t:List UInt8}{bad:Bool}(h:H6 w b p t bad)(x:List UInt8):H6 (w.setCell ⟨b,1,none⟩ x) b p x bad:=by
 obtain⟨h0,h1,h2,h3,h4⟩:=h;have hf:=h1.live 1;exact⟨by simpa using h0,h1.set _,by simp[go_sem,h2],by simp[go_sem,h3,hf],by simp[go_sem,h4]⟩
theorem Qf9(w:World)(a:Addr)(v:Value):w.grownBy (w.setCell a v) (some a.block):=
 ⟨rfl,rfl,rfl,by simp,fun k _ hk=>Go.heap_setCell_other _ _ _ _ (fun e=>hk (by rw[e]))⟩
theorem Am(w:World)(b o:Nat)(v:Value):w.grownBy (w.setCell ⟨b,o,none⟩ v) (some b):=Qf9 w ⟨b,o,none⟩ v
theorem Br(b:Nat):∀(vs:List Value) (o:Nat) (w:World),w.grownBy (w.setCells b o vs) (some b)
 |[],_,w=>World.grownBy.refl _ _
 |v::r,o,w=>(Am w b o v).trans (Br b r (o+1) _)
theorem Ci{w w':World}(h:Below w w w')(row:Option Nat):w.grownBy w' row:=⟨h.os,h.tape,h.output,h.size,fun k hk _=>h.block k hk⟩
theorem Qcp(p s:List UInt8):Gq p s=if p.isPrefixOf s=true then some (s.drop p.length)else none:=by
 by_cases h:p.isPrefixOf s=true
 ·rw[if_pos h];rw[List.isPrefixOf_iff_prefix]at h;obtain⟨t,rfl⟩:=h;rw[Gw];simp
 rw[if_neg h];cases e:Gq p s with
 |none=>rfl
 |some r=>
  rw[Gw]at e;subst e;exact absurd aK h
theorem Qh6(c:UInt8)(s:List UInt8):Gq [c] s=Av c s:=by
 unfold Gq;cases Av c s<;>rfl
def cpV(s:List UInt8):Option (List UInt8)->Value
 |some r=>.tuple #[r,.bool true]
 |none=>.tuple #[s,.bool false]
theorem Yv(s p:List UInt8)(w:World)(hs:s.length<=4000000):
  Calls prog 197 #[s,p] w fun e w'=>e=.returned (cpV s (Gq p s))/\∃k,w'=w.drewN k:=by
 have HW:=Aa (Qcp p s);have Hp:=Aa (fun W=>Yt s p W);by_cases h:p.isPrefixOf s=true
 ·have HW2:=Aa (HW.o.trans (if_pos h));have hl:p.length<=s.length:=by rw[List.isPrefixOf_iff_prefix]at h;exact h.length_le
  have h1:(p.length:Int)<=(s.length:Int):=aH;have h2:(0:Int)<=(p.length:Int):=aH;rw[h]at Hp;clear h HW;go_enter func197,ntmps197;go_wp2_with fail;refine(Hp.o _).mono ?_;rintro e w1 ⟨rfl,rfl⟩;go_wp2_with fail;go_ret2;exact⟨by rw[HW2.o];rfl,0,rfl⟩
 have HW2:=Aa (HW.o.trans (if_neg h));have h':p.isPrefixOf s=false:=Bool.eq_false_iff.2 h;rw[h']at Hp;clear h h' HW;go_enter func197,ntmps197;go_wp2_with fail;refine(Hp.o _).mono ?_;rintro e w1 ⟨rfl,rfl⟩;go_wp2_with fail;go_ret2;exact⟨by rw[HW2.o];rfl,0,rfl⟩
theorem Qar(s p:List UInt8)(w:World)(hs:s.length<=4000000):
  Calls prog 139 #[s,p] w fun e w'=>e=.returned (cpV s (Gq p s))/\∃k,w'=w.drewN k:=by
 have Hp:=Aa (fun W=>Yv s p W hs);cases hw:Gq p s with
 |none=>
  rw[hw]at Hp;clear hw;go_enter func139,ntmps139;go_wp2_with fail;refine(Hp.o _).mono ?_;rintro e w1 ⟨rfl,k,rfl⟩;unfold cpV;go_wp2_with fail;go_ret2;exact⟨rfl,k,rfl⟩
 |some r=>
  rw[hw]at Hp;clear hw;go_enter func139,ntmps139;go_wp2_with fail;refine(Hp.o _).mono ?_;rintro e w1 ⟨rfl,k,rfl⟩;unfold cpV;go_wp2_with fail;go_ret2;exact⟨rfl,k,rfl⟩
def Dz(w:World)(b:Nat)(p:Value)(t:List UInt8)(bad:Bool)(w':World):Prop:=H6 w' b p t bad/\w.grownBy w' (some b)
def Bi(lead t:List UInt8)(bad:Bool):Option (List UInt8):=if bad then none else Gq lead t
theorem Kk(b:Nat)(p:Value)(t lead:List UInt8)(bad:Bool)(w:World)(h:H6 w b p t bad)(hl:t.length<=4000000):
  Calls prog 85 #[b,lead] w fun e w'=>
   e=.returned (.bool (Bi lead t bad).isSome)/\Dz w b p ((Bi lead t bad).getD t) bad w':=by
 have Hp:=Aa (fun W=>Qar t lead W hl);have HT:=@Aa (Bi lead t bad=if bad then none else Gq lead t) rfl;have HS:=Aa h;obtain⟨h0,h1,h2,h3,h4⟩:=h;have hfz:=h1.live 1;clear h1;cases hw:Gq lead t with
 |none=>
  have HT2:=Aa (show Bi lead t bad=none by rw[HT.o,hw];cases bad<;>rfl);rw[hw]at Hp;clear hw HT;go_enter func85,ntmps85;go_wp2_with fail;refine(Hp.o _).mono ?_;rintro e w1 ⟨rfl,k,rfl⟩;unfold cpV;go_wp2_with fail;go_ret;exact⟨by rw[HT2.o];rfl,by rw[HT2.o];exact⟨HS.o.drew k,Ci (below_drewN (Ao _ _) k) _⟩⟩
 |some r=>
  rw[hw]at Hp;cases bad with
  |true=>
   have HT2:=@Aa (Bi lead t true=none) rfl;clear hw HT;go_enter func85,ntmps85;go_wp2_with fail;refine(Hp.o _).mono ?_;rintro e w1 ⟨rfl,k,rfl⟩;unfold cpV;go_wp2_with fail;go_ret;exact⟨by rw[HT2.o];rfl,by rw[HT2.o];exact⟨HS.o.drew k,Ci (below_drewN (Ao _ _) k) _⟩⟩
  |false=>
   have HT2:=@Aa (Bi lead t false=some r) (HT.o.trans hw);clear hw HT;go_enter func85,ntmps85;go_wp2_with fail;refine(Hp.o _).mono ?_;rintro e w1 ⟨rfl,k,rfl⟩;unfold cpV;go_wp2_with fail;go_ret;exact⟨by rw[HT2.o];rfl,by rw[HT2.o];exact⟨(HS.o.drew k).setText r,(Ci (below_drewN (Ao _ _) k) _).trans (Am _ _ _ _)⟩⟩
theorem Du(b:Nat)(p:Value)(t lead:List UInt8)(bad:Bool)(w:World)(h:H6 w b p t bad)(hl:t.length<=4000000):
  Calls prog 84 #[b,lead] w fun e w'=>
   e=.returned (.tuple #[])/\Dz w b p ((Bi lead t bad).getD t) (Bi lead t bad).isNone w':=by
 have Hp:=Aa (Kk b p t lead bad w h hl);have HB:=Aa (show ∀r,Bi lead t bad=some r->bad=false by intro r h;cases bad;rfl;cases h);generalize Bi lead t bad=o at Hp HB ⊢;cases o with
 |some r=>
  obtain rfl:=HB.o r rfl;go_enter func84,ntmps84;go_wp2_with fail;refine Hp.o.mono ?_;rintro e w1 ⟨rfl,hs⟩;have HS:=Aa hs;clear hs;go_wp2_with fail;go_end0
  exact⟨rfl,HS.o⟩
 |none=>
  go_enter func84,ntmps84;go_wp2_with fail;refine Hp.o.mono ?_;rintro e w1 ⟨rfl,hs⟩;have HS:=Aa hs;obtain⟨⟨h0,h1,_,_,h4⟩,_⟩:=hs;have hfz:=h1.live 2;clear h1;go_wp2_with fail;go_end0
  exact⟨rfl,HS.o.1.setBad true,HS.o.2.trans (Am _ _ _ _)⟩
def Qkp:List UInt8:=[48,49,50,51,52,53,54,55,56,57]
theorem Qj4(c:UInt8):Qkp.contains c=Bl c:=by
 have:=Q9 (p:=fun c=>Qkp.contains c == Bl c) fJ c;simpa using this
theorem Qjl(s:List UInt8):s.dropWhile (Qkp.contains ·)=s.dropWhile Bl:=by congr 1;funext c;exact Qj4 c
theorem Qj3(s:List UInt8):s.dropWhile (Qgf.contains ·)=s.dropWhile Co:=by congr 1;funext c;exact Qev c
theorem Th(p:UInt8->Bool)(s:List UInt8):s.take (s.length - (s.dropWhile p).length)=s.takeWhile p/\(s.dropWhile p).length<=s.length:=by
 have e:s.takeWhile p++s.dropWhile p=s:=List.takeWhile_append_dropWhile;have hl:(s.takeWhile p).length+(s.dropWhile p).length=s.length:=by rw[<-ah,e]
 refine⟨?_,by omega⟩;conv=>lhs;arg 2;rw[<-e]
 rw[show s.length - (s.dropWhile p).length=(s.takeWhile p).length by omega,List.take_left]
def J0(t:List UInt8):Nat:=(Cx (t.takeWhile Bl)).getD 0
def Je(m:Nat)(t:List UInt8):Bool:=match Cx (t.takeWhile Bl)with|some n=>decide (n<=m)|none=>false
theorem Ql2(m:Nat)(t:List UInt8):pnV (t.takeWhile Bl) m=.tuple #[.int .i64 (J0 t:Int),.bool (Je m t)]:=by
 unfold pnV J0 Je;cases Cx (t.takeWhile Bl)<;>rfl
theorem H6.grow{w w':World}{b:Nat}{p:Value}{t:List UInt8}{bad:Bool}(h:H6 w b p t bad)(hb:Below w w w'):H6 w' b p t bad:=h.far hb h.1
theorem Qp(b m:Nat)(p:Value)(t:List UInt8)(bad:Bool)(w:World)(h:H6 w b p t bad)(hl:t.length<=4000000)(hm:m<=999999):
  Calls prog 141 #[b,.int .i64 m] w fun e w'=>
   e=.returned (.int .i64 (J0 t:Int))/\Dz w b p (t.dropWhile Bl) (bad || !Je m t) w':=by
 have Htl:=Aa (fun W=>Pi t Qkp W aJ aJ);simp only[Qjl]at Htl;have Hpn:=Aa (fun W=>Jg (t.takeWhile Bl) m W (by have:=(Th Bl t).1;have h2:=List.length_take_le (t.length - (t.dropWhile Bl).length) t;rw[this]at h2;omega) hm);rw[Ql2]at Hpn;obtain⟨htk,hdl⟩:=Th Bl t;have Htk:=Aa htk;unfold Qkp at Htl;have HS:=Aa h;have kw:IntKind.i64.wrap ((t.length:Int) - ((t.dropWhile Bl).length:Int))=(t.length:Int) - ((t.dropWhile Bl).length:Int):=IntWalk.i64_in _ aH;have k1:(0:Int)<=(t.length:Int) - ((t.dropWhile Bl).length:Int):=aH;have k2:(t.length:Int) - ((t.dropWhile Bl).length:Int)<=(t.length:Int):=aH;have k3:((t.length:Int) - ((t.dropWhile Bl).length:Int)).toNat=t.length - (t.dropWhile Bl).length:=aH;generalize J0 t=n at *;generalize Je m t=ok at *;generalize t.takeWhile Bl=a at *;generalize t.dropWhile Bl=r at *;obtain⟨h0,h1,h2,h3,h4⟩:=h;clear htk h1;go_enter func141,ntmps141;go_wp2_with fail;refine(Htl.o _).mono ?_;rintro e w1 ⟨rfl,hb1⟩;have HS1:=Aa (HS.o.grow hb1);have Hb1:=Aa hb1;have C1:=Aa ((hb1.cell (p:=⟨b,1,none⟩) h0).trans h3);have hz1:b<w1.heap.size:=by have:=hb1.size;omega
 clear hb1 HS h2 h3 h4;go_wp2_with fail;refine Jd [14,15,16,17,18,19,20,21,22,23,24,25,26,27,28,13,29,30,6,7]
  (fun ix v W=>match ix with|0=>v=b|1=>v=b|2=>v=(b,1)|3=>v=t|4=>v=b|5=>v=b|6=>v=(b,1)|7=>v=t|8=>v=(t.length:Int)|9=>v=r|10=>v=(r.length:Int)|11=>v=.int .i64 ((t.length:Int) - (r.length:Int))|12=>v=a|13=>v=(m:Int)|14=>v=.tuple #[(n:Int),.bool ok]|15=>v=.tuple #[(n:Int),.bool ok]|16=>v=(n:Int)|17=>v=.bool ok|18=>v=(n:Int)|19=>v=.bool ok|_=>True)
  (fun L U W=>∃k,W=w1.drewN k) (⟨1,rfl⟩) ?_ ?_
 ·repeat (first|exact Ak.nil|(refine Ak.cons ?_ ?_;rotate_left))
  all_goals
   rintro L U W hL hpre HR Hdep K hK;obtain⟨k,hk⟩:=HR.o;have c1:W.cell? (b,1)=t:=by rw[hk];exact C1.o
   clear hk;first|(simp[Region.binds]at hpre;done)|simp[Region.binds]at hpre|clear hpre
  iterate 11
   ·exact hD
  ·exact jg
  ·exact jv
  ·exact hD
  ·go_simp;refine(Hpn.o W).mono ?_;rintro e w' ⟨rfl,rfl⟩;exact kC
  iterate 5
   ·exact hD
 rintro L U W hL hφ hR;have e18:U 18=(n:Int):=hφ 18 aJ;have e19:U 19=.bool ok:=hφ 19 aJ;simp only[e18,e19];clear hφ;obtain⟨k,rfl⟩:=hR;clear hL;have HS2:=Aa (HS1.o.drew k);have Hb2:=Aa (below_drewN Hb1.o k);obtain⟨q0,q1,_,_,_⟩:=HS2.o;have hf1:=q1.live 1;have hf2:=q1.live 2;clear q1;have j2:=HS2.o.2.2.2.1;have j3:=HS2.o.2.2.2.2;cases ok with
 |true=>
  go_wp2_with fail;go_ret;refine⟨rfl,by simpa using HS2.o.setText r,(Ci Hb2.o _).trans (Am _ _ _ _)⟩
 |false=>
  go_wp2_with fail;go_ret;refine⟨rfl,by simpa using(HS2.o.setBad true).setText r,((Ci Hb2.o _).trans (Am _ _ _ _)).trans (Am _ _ _ _)⟩
def Qm1(t:List UInt8)(bad:Bool)(b:Nat)(p:Value)(w:World)(e:Ending)(w':World):Prop:=
 ∃(x t':List UInt8) (bad':Bool),e=.returned x/\Dz w b p t' bad' w'/\(if bad then none else Pd t)=(if bad' then none else some (x,t'))/\x.length+t'.length<=t.length
theorem Rr{c:UInt8}{t:List UInt8}:((Av c t).getD t).length<=t.length:=by
 cases h:Av c t with
 |none=>exact An _
 |some r=>rw[Cu]at h;subst h;simp
theorem Cq(c:UInt8)(t:List UInt8)(bad:Bool):Bi [c] t bad=if bad then none else Av c t:=by unfold Bi;rw[Qh6]
theorem Qc7(t t1 t3:List UInt8)(bad b1 b2 b3:Bool)(h1:t1=(Bi [39] t bad).getD t)(hb1:b1=(Bi [39] t bad).isNone)(h3:t3=(Bi [39] (t1.dropWhile Co) b1).getD (t1.dropWhile Co))(hb2:b2=(Bi [39] (t1.dropWhile Co) b1).isNone)
  (hb3:b3=(b2 || decide (12<(t1.takeWhile Co).length))):
  (if bad then none else Pd t)=(if b3 then none else some (t1.takeWhile Co,t3))/\(t1.takeWhile Co).length+t3.length<=t.length:=by
 have e:(t1.takeWhile Co).length+(t1.dropWhile Co).length=t1.length:=by rw[<-ah,List.takeWhile_append_dropWhile]
 rw[Cq]at h1 hb1 h3 hb2;subst h1 hb1 h3 hb2 hb3;constructor
 ·cases bad with
  |true=>simp
  |false=>
   unfold Pd;simp only[ao,if_false];cases Av 39 t with
   |none=>simp
   |some r=>
    simp only[Option.getD_some,Option.isNone_some,ao,if_false];cases Av 39 (r.dropWhile Co)with
    |none=>simp
    |some q=>
     simp only[Option.getD_some,Option.isNone_some,Bool.false_or,decide_eq_true_eq];by_cases h:(r.takeWhile Co).length<=12
     ·rw[if_pos h,if_neg aH]
     rw[if_neg h,if_pos aH]
 have k1:((if bad=true then none else Av 39 t).getD t).length<=t.length:=by cases bad;exact Rr;exact An _
 generalize (if bad=true then none else Av 39 t)=o at *;have k2:((if o.isNone=true then none else Av 39 ((o.getD t).dropWhile Co)).getD ((o.getD t).dropWhile Co)).length<=((o.getD t).dropWhile Co).length:=by cases o.isNone;exact Rr;exact An _
 omega
theorem Qfo(b:Nat)(p:Value)(t:List UInt8)(bad:Bool)(w:World)(h:H6 w b p t bad)(hl:t.length<=4000000):
  Calls prog 142 #[b] w (Qm1 t bad b p w):=by
 have Hq:=Aa (Qc7 t);have Hw1:=Aa (fun W (h:H6 W b p t bad)=>Du b p t [39] bad W h hl);have hk1:((Bi [39] t bad).getD t).length<=t.length:=gw;have HS:=Aa h;clear h;obtain⟨t1,ht1⟩:∃t1,t1=(Bi [39] t bad).getD t:=⟨_,rfl⟩
 obtain⟨b1,hb1⟩:∃b1,b1=(Bi [39] t bad).isNone:=⟨_,rfl⟩
 rw[<-ht1]at hk1;have Hq:=Aa (fun t3 b2 b3=>Hq.o t1 t3 bad b1 b2 b3 ht1 hb1);rw[<-ht1,<-hb1]at Hw1;clear ht1 hb1;have Htl:=Aa (fun W=>Pi t1 Qgf W aJ aJ);simp only[Qj3]at Htl;unfold Qgf at Htl;obtain⟨htk,hdl⟩:=Th Co t1;have Htk:=Aa htk;have Hw2:=Aa (fun W (h:H6 W b p (t1.dropWhile Co) b1)=>Du b p (t1.dropWhile Co) [39] b1 W h aH);clear htk;go_enter func142,ntmps142;go_wp2_with fail;refine(Hw1.o _ HS.o).mono ?_;rintro e w1 ⟨rfl,hs1,hg1⟩;have HS1:=Aa hs1;have Hg1:=Aa hg1;obtain⟨z1,_,_,c1,_⟩:=hs1;clear hg1;go_wp2_with fail;refine(Htl.o _).mono ?_;rintro e w2 ⟨rfl,hb2⟩;have HS2:=Aa (HS1.o.grow hb2);have Hg2:=Aa (Hg1.o.trans (Ci hb2 _));have C2:=Aa HS2.o.2.2.2.1;have hz2:b<w2.heap.size:=HS2.o.1;clear hb2 c1 z1;have kw:IntKind.i64.wrap ((t1.length:Int) - ((t1.dropWhile Co).length:Int))=(t1.length:Int) - ((t1.dropWhile Co).length:Int):=IntWalk.i64_in _ aH;have k1:(0:Int)<=(t1.length:Int) - ((t1.dropWhile Co).length:Int):=aH;have k2:(t1.length:Int) - ((t1.dropWhile Co).length:Int)<=(t1.length:Int):=aH;have k3:((t1.length:Int) - ((t1.dropWhile Co).length:Int)).toNat=t1.length - (t1.dropWhile Co).length:=aH;obtain⟨a,ha⟩:∃a,a=t1.takeWhile Co:=⟨_,rfl⟩
 obtain⟨r,hr⟩:∃r,r=t1.dropWhile Co:=⟨_,rfl⟩
 rw[<-ha]at Htk;rw[<-hr]at Htk Hw2 hdl kw k1 k2 k3;simp only[<-hr];have Hq:=Aa (fun t3 b2 b3=>Hq.o t3 b2 b3);simp only[<-hr,<-ha]at Hq;clear ha hr;go_wp2_with fail;refine Jd [12,13,14,15,16,17,18,19,20,21,22,23,24,4]
  (fun ix v W=>match ix with|0=>v=b|1=>v=b|2=>v=(b,1)|3=>v=.string ⟨t1.toArray⟩|4=>v=b|5=>v=b|6=>v=(b,1)|7=>v=.string ⟨t1.toArray⟩|8=>v=(t1.length:Int)|9=>v=.string ⟨r.toArray⟩|10=>v=(r.length:Int)|11=>v=.int .i64 ((t1.length:Int) - (r.length:Int))|12=>v=.string ⟨a.toArray⟩|13=>v=.string ⟨a.toArray⟩|_=>True)
  (fun L U W=>∃k,W=w2.drewN k) (⟨1,rfl⟩) ?_ ?_
 ·repeat (first|exact Ak.nil|(refine Ak.cons ?_ ?_;rotate_left))
  all_goals
   rintro L U W hL hpre HR Hdep K hK;obtain⟨k,hk⟩:=HR.o;have c1:W.cell? (b,1)=some (.string ⟨t1.toArray⟩):=by rw[hk];exact C2.o
   clear hk;first|(simp[Region.binds]at hpre;done)|simp[Region.binds]at hpre|clear hpre
  iterate 11
   ·exact hD
  ·exact jg
  ·exact jv
  ·exact hD
 rintro L U W hL hφ hR;have e13:U 13=.string ⟨a.toArray⟩:=hφ 13 aJ;simp only[e13];clear hφ;obtain⟨k,rfl⟩:=hR;clear hL;have HS3:=Aa (HS2.o.drew k);have Hg3:=Aa (Hg2.o.trans (Ci (below_drewN (Ao _ _) k) _));have hf1:=HS3.o.2.1.live 1;have q0:=HS3.o.1;have j2:=HS3.o.2.2.2.1;have j3:=HS3.o.2.2.2.2;go_wp2_with fail;refine(Hw2.o _ (HS3.o.setText r)).mono ?_;rintro e w4 ⟨rfl,hs4,hg4⟩;have HS4:=Aa hs4;have Hg4:=Aa ((Hg3.o.trans (Am _ _ _ _)).trans hg4);clear hg4 hs4 j2 j3 hf1 q0;have Hq4:=Aa (fun b3=>Hq.o _ _ b3 rfl rfl);generalize (Bi [39] r b1).getD r=t3 at *;generalize (Bi [39] r b1).isNone=b2 at *;have hf2:=HS4.o.2.1.live 2;have q0:=HS4.o.1;have k3:=HS4.o.2.2.2.2;by_cases hlen:a.length<=12
 ·have t1:decide ((12:Int)<(a.length:Int))=false:=aM;go_wp2_with fail;go_ret;obtain⟨h1,h2⟩:=Hq4.o b2 aM;exact⟨a,t3,b2,rfl,⟨HS4.o,Hg4.o⟩,h1,h2⟩
 have t1:decide ((12:Int)<(a.length:Int))=true:=aM;go_wp2_with fail;go_ret;obtain⟨h1,h2⟩:=Hq4.o true aM;exact⟨a,t3,true,rfl,⟨HS4.o.setBad true,Hg4.o.trans (Am _ _ _ _)⟩,h1,h2⟩
end
end Go.Proofs.YtmmhmlmfhpfgbaaGreatDoor
