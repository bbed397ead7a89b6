/- Texts joined. Conditions: as each theorem names them. -/
import Derived.BigRegion
import Derived.BigQuiet
import Derived.Deep.QuietTactic
import Derived.Test.YtkgkoicedddkmaaGreatDoorR04
import Derived.Test.YtkgkoicedddkmaaGreatDoorR13
set_option maxRecDepth 100000
set_option maxHeartbeats 32000000
set_option linter.unusedVariables false
set_option linter.unusedSimpArgs false
namespace Go.Proofs.YtkgkoicedddkmaaGreatDoor
open Go.RowKit Go.Proofs.Tryz
section
attribute [local go_sem] Qiz Qii Qib Qgw ByteArray.mk_append_mk
theorem Kp(c:UInt8)(s:List UInt8):(Qde c s).1.length<=s.length/\(Qde c s).2.1.length<=s.length:=by
 rcases Ev c s with⟨_,h⟩|⟨p,t,rfl,_,h⟩
 ·rw[h];simp
 rw[h];simp;omega
def Ml(st:UInt8)(ps:List (List UInt8))(vl:List UInt8)(td:Bool):Option Fd:=
 if st=69 then
  match J2 ps with
  |some (n,b)=>if td=true then none else some ⟨n,b,Kd.nil,vl⟩
  |none=>none
 else
  match Kw ps with
  |some (n,b,c)=>(match Co c with
   |some k=>if td=true/\¬(st=82/\k.signs=[]/\Bz k.base vl=true)then none else some ⟨n,b,k,vl⟩
   |none=>none)
  |none=>none
theorem Yj(st:UInt8)(s:List UInt8):Gp st s=Ml st (Ai 58 (Qde 61 s).1) (Qde 61 s).2.1 (Qde 61 s).2.2:=rfl
theorem Vu{st:UInt8}{ps:List (List UInt8)}{vl:List UInt8}{td:Bool}(h:ps.length≠if st=69 then 2 else 3):Ml st ps vl td=none:=by
 unfold Ml;by_cases e:st=69
 ·rw[if_pos e]at h ⊢;match ps,h with
  |[],_=>rfl
  |[_],_=>rfl
  |[_,_],h=>exact absurd rfl h
  |_::_::_::_,_=>rfl
 rw[if_neg e]at h ⊢;match ps,h with
 |[],_=>rfl
 |[_],_=>rfl
 |[_,_],_=>rfl
 |[_,_,_],h=>exact absurd rfl h
 |_::_::_::_::_,_=>rfl
def Nh(a b:List UInt8)(n:Nat):Prop:=Cn a=some n/\1<=n/\n<=200/\Aw b=true
theorem St{st:UInt8}{a b:List UInt8}{r:List (List UInt8)}{vl:List UInt8}{td:Bool}(h:∀n,¬Nh a b n):Ml st (a::b::r) vl td=none:=by
 have h2:∀c,J2 (a::b::c)=none:=by
  intro c;match c with
  |[]=>
   cases hd:Cn a with
   |none=>simp only[J2,hd]
   |some n=>simp only[J2,hd];exact if_neg fun(e:1<=n/\n<=200/\Aw b=true)=>h n ⟨hd,e.1,e.2.1,e.2.2⟩
  |_::_=>rfl
 have h3:∀c,Kw (a::b::c)=none:=by
  intro c;match c with
  |[]=>rfl
  |[x]=>
   cases hd:Cn a with
   |none=>simp only[Kw,hd]
   |some n=>simp only[Kw,hd];exact if_neg fun(e:1<=n/\n<=200/\Aw b=true)=>h n ⟨hd,e.1,e.2.1,e.2.2⟩
  |_::_::_=>rfl
 unfold Ml;rw[h2,h3];split<;>rfl
theorem Qgk{a b:List UInt8}{vl:List UInt8}{td:Bool}{n:Nat}(h:Nh a b n):Ml 69 [a,b] vl td=if td=true then none else some ⟨n,b,Kd.nil,vl⟩:=by
 obtain⟨h1,h2,h3,h4⟩:=h;unfold Ml J2;simp[h1,h2,h3,h4]
theorem Qfp{st:UInt8}{a b c:List UInt8}{vl:List UInt8}{td:Bool}{n:Nat}(hst:st≠69)(h:Nh a b n):Ml st [a,b,c] vl td=(match Co c with
   |some k=>if td=true/\¬(st=82/\k.signs=[]/\Bz k.base vl=true)then none else some ⟨n,b,k,vl⟩
   |none=>none):=by
 obtain⟨h1,h2,h3,h4⟩:=h;unfold Ml Kw;simp[h1,h2,h3,h4,hst]
theorem Qbq{k:Kd}(h:Zu k):Qhz k.base:=by
 rcases h with⟨h,_⟩|⟨h|h|h,_⟩
 ·exact .inr (.inr (.inr h))
 ·exact .inl h
 ·exact .inr (.inl h)
 exact .inr (.inr (.inl h))
theorem Qif{ps:List (List UInt8)}(h:ps.length=2):∃a b,ps=[a,b]:=by
 match ps,h with
 |[a,b],_=>exact⟨a,b,rfl⟩
theorem Qh1{ps:List (List UInt8)}(h:ps.length=3):∃a b c,ps=[a,b,c]:=by
 match ps,h with
 |[a,b,c],_=>exact⟨a,b,c,rfl⟩
theorem Sy{w:World}{b o n:Nat}(h:w.there b o n)(k:Nat):(w.drewN k).there b o n:=by
 induction k generalizing w with
 |zero=>exact h
 |succ k ih=>exact ih bg
theorem Qfx(st:UInt8)(hst:st=69)(s:List UInt8)(w:World)(hs:s.length<=4000000):
  Calls prog 114 #[s,.int .u8 (st.toNat:Int)] w (Dv (Gp st s) w):=by
 have HF:=Aa (Yj st s);have Hcut:=Aa (fun W=>Re s 61 W aH);have hcl:=(Kp 61 s).1;have hvl:=(Kp 61 s).2;generalize Qde 61 s=r at HF Hcut hcl hvl;obtain⟨hd,vl,td⟩:=r;simp only at hcl hvl HF;have Hsp:=Aa (fun W=>Sh hd 58 W aH);have hne:=Dm 58 hd;have Hpl:=Aa (Ak 58 hd);generalize Ai 58 hd=ps at HF Hsp hne Hpl;have e69:((st.toNat:Int) == 69)=true:=Be hst;have n69:((st.toNat:Int) != 69)=false:=Mh hst;have Hst0:=Aa hst;clear hst;go_enter func114,ntmps114;go_wp2_with fail;refine(Hcut.o _).mono ?_;rintro e w1 ⟨rfl,k1,rfl⟩;unfold Zz;go_wp2_with fail;refine(Hsp.o _).mono ?_;rintro e w2 ⟨v,rfl,ho,hb⟩;obtain⟨g,c,rfl,hg1,hg2,hcells⟩:=Mw ho hne;have hzz:w.heap.size<w2.heap.size:=by have:=hb.size;simp at this;omega
 have HT:=@Aa (w2.there w 0 6) (Al (Sy (Cc w [.int .i64 0,a8,a8,a8,a8,a8] 124) k1) aL hb);have Hb:=@Aa (Below w w w2) ((below_drewN ((Aq w.heap.size w).alloc (Ap _) _) k1).trans (hb.mono aL));have Hcells:=Aa hcells;clear hb ho hcells hne;by_cases hlen:ps.length=2
 ·obtain⟨a,b,rfl⟩:=Qif hlen;have c0:=Hcells.o 0 aL;have c1:=Hcells.o 1 aL;simp at c0 c1;have la:a.length<=4000000:=by have:=Hpl.o a aL;omega
  have lb:b.length<=4000000:=by have:=Hpl.o b aL;omega
  clear Hpl Hcells hlen;have hpn:=fun W=>(show Calls prog 105 #[a,.int .i64 200] W fun e w'=>e=.returned (pnV a 200)/\W=w' from Gk a 200 W aH aK)
  have Hhead:=@Aa (∀n,Nh a b n↔Cn a=some n/\1<=n/\n<=200/\Aw b=true) (fun n=>Iff.rfl);have Hno:=Aa (fun(h:∀n,¬Nh a b n)=>HF.o.trans (St h));generalize hda:Cn a=od at *;have Hda:=Aa hda;clear hda;cases od with
  |none=>
   have Hpn:=Aa (fun W=>(Ql (m:=200) Hda.o) ▸ hpn W);clear hpn;go_wp2_with fail;refine(Hpn.o _).mono ?_;rintro e w3 ⟨rfl,rfl⟩;go_wp2_with ((with_reducible refine Ad (op:=⟨none,.store 124 _ _,_,_,_,none⟩) rfl 124 _ _ rfl w 0 [.int .i64 0,a8,a8,a8,a8,a8] ?_ ?_ ?_ ?_ ?_ ?_);rfl;rfl;(first|exact ar HT.o _|exact HT.o);kernel_rfl;(simp[Value.oneCell']);intro w9 HS9)
   have HZ:=@Aa (w9.rangeAt w 0 [.int .i64 0,a8,a8,a8,a8,a8]) bu;refine aF (v:=.tuple #[.agg ([.int .i64 0,a8,a8,a8,a8,a8]:List Value).toArray,.bool false]) ?_ rfl ?_
   ·exact ii
   exact Dv.no (Hno.o (fun n h=>by have:=((Hhead.o n).1 h).1;cases this)) rfl aY
  |some n=>
   have Hpn:=Aa (fun W=>(Tc (m:=200) Hda.o) ▸ hpn W);clear hpn;have hn9:n<=999999:=(Ca.1 Hda.o).1;rcases aG 200 n with h200|h200
   ·exact ip
   have Hdec:=Aa (show decide (n<=200)=true by simp;omega);rw[Hdec.o]at Hpn;rcases Nat.eq_zero_or_pos n with h0|h0
   ·exact iq
   have hlt1:decide ((n:Int)<1)=false:=eI;have Hname:=Aa (fun W=>Ke b W aH);generalize hnb:Aw b=nb at *;have Hnb:=Aa hnb;clear hnb;go_wp2_with fail;refine(Hpn.o _).mono ?_;rintro e w3 ⟨rfl,rfl⟩;go_wp2_with fail;refine(Hname.o _).mono ?_;rintro e w4 ⟨rfl,hb4⟩;have hz4:w2.heap.size<w4.heap.size:=eH;have HT4:=@Aa (w4.there w 0 6) (Al (ar HT.o _) aM hb4);have HR4:=@Aa (w4.rangeAt w2 0 [(n:Int),b,a8,a8,a8,vl]) (Aj (Bw w2 _ _) aL hb4);have HK4:=@Aa (w4.there w2 0 6) (Al (Cc w2 [(n:Int),b,a8,a8,a8,vl] _) aL hb4);have Hb4:=@Aa (Below w w w4) ((Hb.o.alloc Hb.o.size _).trans (hb4.mono aM));clear hb4;cases nb with
   |false=>
    go_wp2_with ((with_reducible refine Ad (op:=⟨none,.store 124 _ _,_,_,_,none⟩) rfl 124 _ _ rfl w 0 [.int .i64 0,a8,a8,a8,a8,a8] ?_ ?_ ?_ ?_ ?_ ?_);rfl;rfl;(first|exact ar HT4.o _|exact HT4.o);kernel_rfl;(simp[Value.oneCell']);intro w9 HS9)
    have HZ:=@Aa (w9.rangeAt w 0 [.int .i64 0,a8,a8,a8,a8,a8]) ch;refine aF (v:=.tuple #[.agg ([.int .i64 0,a8,a8,a8,a8,a8]:List Value).toArray,.bool false]) ?_ rfl ?_
    ·exact ii
    exact Dv.no (Hno.o (fun m h=>by have:=((Hhead.o m).1 h).2.2.2;cases this)) rfl bE
   |true=>
    have Hok:=@Aa (Nh a b n) ((Hhead.o n).2 ⟨rfl,h0,h200,rfl⟩);have HF2:=Aa (HF.o.trans (show Ml st [a,b] vl td=if td=true then none else some ⟨n,b,Kd.nil,vl⟩from by rw[Hst0.o];exact Qgk Hok.o));clear Hno Hhead HF;have n82:((st.toNat:Int) != 82)=true:=Pe (c:=st) (d:=82) (by rw[Hst0.o];decide);cases td with
    |true=>
     go_wp2_with ((with_reducible refine Ad (op:=⟨none,.store 124 _ _,_,_,_,none⟩) rfl 124 _ _ rfl w 0 [.int .i64 0,a8,a8,a8,a8,a8] ?_ ?_ ?_ ?_ ?_ ?_);rfl;rfl;(first|exact ar HT4.o _|exact HT4.o);kernel_rfl;(simp[Value.oneCell']);intro w9 HS9)
     have HZ:=@Aa (w9.rangeAt w 0 [.int .i64 0,a8,a8,a8,a8,a8]) ch;refine aF (v:=.tuple #[.agg ([.int .i64 0,a8,a8,a8,a8,a8]:List Value).toArray,.bool false]) ?_ rfl ?_
     ·exact ii
     exact Dv.no (HF2.o.trans aL) rfl bE
    |false=>
     go_wp2_with (first|((with_reducible refine Ad (op:=⟨none,.store 124 _ _,_,_,_,none⟩) rfl 124 _ _ rfl w 0 [(n:Int),b,a8,a8,a8,vl] ?_ ?_ ?_ ?_ ?_ ?_);rfl;rfl;(first|exact ar HT4.o _|exact HT4.o);kernel_rfl;(simp[Value.oneCell']);intro w9 HS9)|((with_reducible refine wpList_load_mid (op:=⟨_,.load 124 _,_,_,_,none⟩) rfl 124 _ rfl w2 0 ?_ [(n:Int),b,a8,a8,a8,vl] _ HR4.o underlying124 ?_ ?_ ?_);rfl;rfl;kernel_rfl))
     have HZ:=@Aa (w9.rangeAt w 0 [(n:Int),b,a8,a8,a8,vl]) ch;refine aF (v:=.tuple #[.agg ([(n:Int),b,a8,a8,a8,vl]:List Value).toArray,.bool true]) ?_ rfl ?_
     ·exact Ao results114 _ _ w.heap.size [(n:Int),b,a8,a8,a8,vl] _ _ rfl rfl HZ.o underlying124 rfl aO
     exact Dv.yes (HF2.o.trans (if_neg (fun h=>by cases h))) rfl bE
 have Hno:=Aa (HF.o.trans (Vu (vl:=vl) (td:=td) (st:=st) (ps:=ps) (by rw[if_pos Hst0.o];exact hlen)));have hl1:¬(ps.length:Int)=2:=aH;have hl2:((ps.length:Int) != 2)=true:=by rw[bne_iff_ne];exact hl1
 clear HF Hpl Hcells;go_wp2_with ((with_reducible refine Ad (op:=⟨none,.store 124 _ _,_,_,_,none⟩) rfl 124 _ _ rfl w 0 [.int .i64 0,a8,a8,a8,a8,a8] ?_ ?_ ?_ ?_ ?_ ?_);rfl;rfl;(first|exact ar HT.o _|exact HT.o);kernel_rfl;(simp[Value.oneCell']);intro w9 HS9)
 have HZ:=@Aa (w9.rangeAt w 0 [.int .i64 0,a8,a8,a8,a8,a8]) bu;refine aF (v:=.tuple #[.agg ([.int .i64 0,a8,a8,a8,a8,a8]:List Value).toArray,.bool false]) ?_ rfl ?_
 ·exact ii
 exact Dv.no Hno.o rfl aY
theorem Qgd(st:UInt8)(hst:st≠69)(s:List UInt8)(w:World)(hs:s.length<=4000000):
  Calls prog 114 #[s,.int .u8 (st.toNat:Int)] w (Dv (Gp st s) w):=by
 have HF:=Aa (Yj st s);have Hcut:=Aa (fun W=>Re s 61 W aH);have hcl:=(Kp 61 s).1;have hvl:=(Kp 61 s).2;generalize Qde 61 s=r at HF Hcut hcl hvl;obtain⟨hd,vl,td⟩:=r;simp only at hcl hvl HF;have Hsp:=Aa (fun W=>Sh hd 58 W aH);have hne:=Dm 58 hd;have Hpl:=Aa (Ak 58 hd);generalize Ai 58 hd=ps at HF Hsp hne Hpl;have e69:((st.toNat:Int) == 69)=false:=Am hst;have n69:((st.toNat:Int) != 69)=true:=Pe hst;have Hst0:=Aa hst;clear hst;go_enter func114,ntmps114;go_wp2_with fail;refine(Hcut.o _).mono ?_;rintro e w1 ⟨rfl,k1,rfl⟩;unfold Zz;go_wp2_with fail;refine(Hsp.o _).mono ?_;rintro e w2 ⟨v,rfl,ho,hb⟩;obtain⟨g,c,rfl,hg1,hg2,hcells⟩:=Mw ho hne;have hzz:w.heap.size<w2.heap.size:=by have:=hb.size;simp at this;omega
 have HT:=@Aa (w2.there w 0 6) (Al (Sy (Cc w [.int .i64 0,a8,a8,a8,a8,a8] 124) k1) aL hb);have Hb:=@Aa (Below w w w2) ((below_drewN ((Aq w.heap.size w).alloc (Ap _) _) k1).trans (hb.mono aL));have Hcells:=Aa hcells;clear hb ho hcells hne;by_cases hlen:ps.length=3
 ·obtain⟨a,b,d,rfl⟩:=Qh1 hlen;have c0:=Hcells.o 0 aL;have c1:=Hcells.o 1 aL;have c2:=Hcells.o 2 aL;simp at c0 c1 c2;have la:a.length<=4000000:=by have:=Hpl.o a aL;omega
  have lb:b.length<=4000000:=by have:=Hpl.o b aL;omega
  have ld:d.length<=4000000:=by have:=Hpl.o d aL;omega
  clear Hpl Hcells hlen;have hpn:=fun W=>(show Calls prog 105 #[a,.int .i64 200] W fun e w'=>e=.returned (pnV a 200)/\W=w' from Gk a 200 W aH aK)
  have Hhead:=@Aa (∀n,Nh a b n↔Cn a=some n/\1<=n/\n<=200/\Aw b=true) (fun n=>Iff.rfl);have Hno:=Aa (fun(h:∀n,¬Nh a b n)=>HF.o.trans (St h));generalize hda:Cn a=od at *;have Hda:=Aa hda;clear hda;cases od with
  |none=>
   have Hpn:=Aa (fun W=>(Ql (m:=200) Hda.o) ▸ hpn W);clear hpn;go_wp2_with fail;refine(Hpn.o _).mono ?_;rintro e w3 ⟨rfl,rfl⟩;go_wp2_with ((with_reducible refine Ad (op:=⟨none,.store 124 _ _,_,_,_,none⟩) rfl 124 _ _ rfl w 0 [.int .i64 0,a8,a8,a8,a8,a8] ?_ ?_ ?_ ?_ ?_ ?_);rfl;rfl;(first|exact ar HT.o _|exact HT.o);kernel_rfl;(simp[Value.oneCell']);intro w9 HS9)
   have HZ:=@Aa (w9.rangeAt w 0 [.int .i64 0,a8,a8,a8,a8,a8]) bu;refine aF (v:=.tuple #[.agg ([.int .i64 0,a8,a8,a8,a8,a8]:List Value).toArray,.bool false]) ?_ rfl ?_
   ·exact ii
   exact Dv.no (Hno.o (fun n h=>by have:=((Hhead.o n).1 h).1;cases this)) rfl aY
  |some n=>
   have Hpn:=Aa (fun W=>(Tc (m:=200) Hda.o) ▸ hpn W);clear hpn;have hn9:n<=999999:=(Ca.1 Hda.o).1;rcases aG 200 n with h200|h200
   ·exact ip
   have Hdec:=Aa (show decide (n<=200)=true by simp;omega);rw[Hdec.o]at Hpn;rcases Nat.eq_zero_or_pos n with h0|h0
   ·exact iq
   have hlt1:decide ((n:Int)<1)=false:=eI;have Hname:=Aa (fun W=>Ke b W aH);generalize hnb:Aw b=nb at *;have Hnb:=Aa hnb;clear hnb;go_wp2_with fail;refine(Hpn.o _).mono ?_;rintro e w3 ⟨rfl,rfl⟩;go_wp2_with fail;refine(Hname.o _).mono ?_;rintro e w4 ⟨rfl,hb4⟩;have hz4:w2.heap.size<w4.heap.size:=eH;have HT4:=@Aa (w4.there w 0 6) (Al (ar HT.o _) aM hb4);have HR4:=@Aa (w4.rangeAt w2 0 [(n:Int),b,a8,a8,a8,vl]) (Aj (Bw w2 _ _) aL hb4);have HK4:=@Aa (w4.there w2 0 6) (Al (Cc w2 [(n:Int),b,a8,a8,a8,vl] _) aL hb4);have Hb4:=@Aa (Below w w w4) ((Hb.o.alloc Hb.o.size _).trans (hb4.mono aM));have c2x:w4.cell? (g,2)=d:=(hb4.cell (p:=⟨g,2,none⟩) aM).trans (by rw[World.cell?_alloc_old _ _ _ aM];exact c2);clear hb4;cases nb with
   |false=>
    go_wp2_with ((with_reducible refine Ad (op:=⟨none,.store 124 _ _,_,_,_,none⟩) rfl 124 _ _ rfl w 0 [.int .i64 0,a8,a8,a8,a8,a8] ?_ ?_ ?_ ?_ ?_ ?_);rfl;rfl;(first|exact ar HT4.o _|exact HT4.o);kernel_rfl;(simp[Value.oneCell']);intro w9 HS9)
    have HZ:=@Aa (w9.rangeAt w 0 [.int .i64 0,a8,a8,a8,a8,a8]) ch;refine aF (v:=.tuple #[.agg ([.int .i64 0,a8,a8,a8,a8,a8]:List Value).toArray,.bool false]) ?_ rfl ?_
    ·exact ii
    exact Dv.no (Hno.o (fun m h=>by have:=((Hhead.o m).1 h).2.2.2;cases this)) rfl bE
   |true=>
    have Hok:=@Aa (Nh a b n) ((Hhead.o n).2 ⟨rfl,h0,h200,rfl⟩);have HF2:=Aa (HF.o.trans (Qfp (c:=d) (vl:=vl) (td:=td) Hst0.o Hok.o));clear Hno Hhead HF;have Hkd:=Aa (fun W=>Q7 d W ld);have Hkok:=Aa (fun k (h:Co d=some k)=>(Em.1 h).1);generalize Co d=ok at HF2 Hkd Hkok;go_wp2_with fail;refine(Hkd.o _).mono ?_;rintro e w5 ⟨hcase,hb5⟩;have HT5:=@Aa (w5.there w 0 6) (Al HT4.o aH hb5);have HR5:=@Aa (w5.rangeAt w2 0 _) (Aj HR4.o hz4 hb5);have HK5:=@Aa (w5.there w2 0 6) (Al HK4.o hz4 hb5);have Hb5:=Aa (Hb4.o.trans (hb5.mono Hb4.o.size));have hz5:w2.heap.size<w5.heap.size:=ac hz4 hb5.size;clear hb5;cases ok with
    |none=>
     obtain⟨a1,a2,a3,rfl⟩:=hcase;go_wp2_with (first|((with_reducible refine Ad (op:=⟨none,.store 62 _ _,_,_,_,none⟩) rfl 62 _ _ rfl w2 2 [.string a1,.string a2,.string a3] ?_ ?_ ?_ ?_ ?_ ?_);rfl;rfl;(exact J7 HK5.o 2 3 aK aK);kernel_rfl;(simp[Value.oneCell']);intro w6 HS6;have HT6:=@Aa (w6.there w 0 6) (HS6.o ▸ ai HT5.o _ _ _);have HR6:=@Aa (w6.rangeAt w2 0 [(n:Int),b,.string a1,.string a2,.string a3,vl]) (HS6.o ▸ C7 [(n:Int),b] [a8,a8,a8] [vl] [.string a1,.string a2,.string a3] HR5.o rfl);have Hb6:=@Aa (Below w w w6) (HS6.o ▸ Ag _ (Nat.le_of_lt hzz) _ _ _ Hb5.o);have hz6:w2.heap.size<w6.heap.size:=dt;have z2:w6.cell? (w2,2)=some (.string a1):=cZ;have z3:w6.cell? (w2,3)=some (.string a2):=d7;clear HT5 HR5 HK5 HS6)|((with_reducible refine Ad (op:=⟨none,.store 124 _ _,_,_,_,none⟩) rfl 124 _ _ rfl w 0 [.int .i64 0,a8,a8,a8,a8,a8] ?_ ?_ ?_ ?_ ?_ ?_);rfl;rfl;(first|exact ar HT6.o _|exact HT6.o);kernel_rfl;(simp[Value.oneCell']);intro w9 HS9))
     have HZ:=@Aa (w9.rangeAt w 0 [.int .i64 0,a8,a8,a8,a8,a8]) ci;refine aF (v:=.tuple #[.agg ([.int .i64 0,a8,a8,a8,a8,a8]:List Value).toArray,.bool false]) ?_ rfl ?_
     ·exact ii
     exact Dv.no HF2.o rfl bF
    |some k=>
     have hcase':e=.returned (.tuple #[.agg #[k.signs,k.base,k.name],.bool true]):=hcase;subst hcase';clear hcase;have Hkk:=Aa (Hkok.o k rfl);have HF3:=@Aa (Gp st s=if td=true/\¬(st=82/\k.signs=[]/\Bz k.base vl=true)then none else some ⟨n,b,k,vl⟩) HF2.o;clear HF2 Hkok;cases td with
     |false=>
      go_wp2_with (first|((with_reducible refine Ad (op:=⟨none,.store 62 _ _,_,_,_,none⟩) rfl 62 _ _ rfl w2 2 [k.signs,k.base,k.name] ?_ ?_ ?_ ?_ ?_ ?_);rfl;rfl;(exact J7 HK5.o 2 3 aK aK);kernel_rfl;(simp[Value.oneCell']);intro w6 HS6;have HT6:=@Aa (w6.there w 0 6) (HS6.o ▸ ai HT5.o _ _ _);have HR6:=@Aa (w6.rangeAt w2 0 [(n:Int),b,k.signs,k.base,k.name,vl]) (HS6.o ▸ C7 [(n:Int),b] [a8,a8,a8] [vl] [k.signs,k.base,k.name] HR5.o rfl);have Hb6:=@Aa (Below w w w6) (HS6.o ▸ Ag _ (Nat.le_of_lt hzz) _ _ _ Hb5.o);have hz6:w2.heap.size<w6.heap.size:=dt;have z2:w6.cell? (w2,2)=k.signs:=cZ;have z3:w6.cell? (w2,3)=k.base:=d7;clear HT5 HR5 HK5 HS6)|((with_reducible refine Ad (op:=⟨none,.store 124 _ _,_,_,_,none⟩) rfl 124 _ _ rfl w 0 [(n:Int),b,k.signs,k.base,k.name,vl] ?_ ?_ ?_ ?_ ?_ ?_);rfl;rfl;(first|exact ar HT6.o _|exact HT6.o);kernel_rfl;(simp[Value.oneCell']);intro w9 HS9)|((with_reducible refine wpList_load_mid (op:=⟨_,.load 124 _,_,_,_,none⟩) rfl 124 _ rfl w2 0 ?_ [(n:Int),b,k.signs,k.base,k.name,vl] _ HR6.o underlying124 ?_ ?_ ?_);rfl;rfl;kernel_rfl))
      have HZ:=@Aa (w9.rangeAt w 0 [(n:Int),b,k.signs,k.base,k.name,vl]) ci;refine aF (v:=.tuple #[.agg ([(n:Int),b,k.signs,k.base,k.name,vl]:List Value).toArray,.bool true]) ?_ rfl ?_
      ·exact jz
      exact Dv.yes (HF3.o.trans (if_neg aL)) rfl bF
     |true=>
      rcases Decidable.em (st=82)with h82|h82
      ·have n82:((st.toNat:Int) != 82)=false:=Mh (c:=st) (d:=82) h82;rcases Decidable.em (k.signs=[])with hsg|hsg
       ·have hsg1:(k.signs != [])=false:=cL;have hsg2:k.signs.isEmpty=true:=cL;have hsg3:(!k.signs.isEmpty)=false:=cL;have hbl:=Qbq Hkk.o.2.1;have Hst:=Aa (fun W=>Zv k.base vl W hbl aH)
        have Hst2:=Aa (show Gp st s=if Bz k.base vl=true then some ⟨n,b,k,vl⟩else none from by
         rw[HF3.o];by_cases hh:Bz k.base vl=true
         ·rw[if_neg (by simp[h82,hsg,hh]),if_pos hh]
         rw[if_pos (by simp[hh]),if_neg hh])
        generalize Bz k.base vl=sb at Hst Hst2;clear hsg h82 hbl;go_wp2_with ((with_reducible refine Ad (op:=⟨none,.store 62 _ _,_,_,_,none⟩) rfl 62 _ _ rfl w2 2 [k.signs,k.base,k.name] ?_ ?_ ?_ ?_ ?_ ?_);rfl;rfl;(exact J7 HK5.o 2 3 aK aK);kernel_rfl;(simp[Value.oneCell']);intro w6 HS6;have HT6:=@Aa (w6.there w 0 6) (HS6.o ▸ ai HT5.o _ _ _);have HR6:=@Aa (w6.rangeAt w2 0 [(n:Int),b,k.signs,k.base,k.name,vl]) (HS6.o ▸ C7 [(n:Int),b] [a8,a8,a8] [vl] [k.signs,k.base,k.name] HR5.o rfl);have Hb6:=@Aa (Below w w w6) (HS6.o ▸ Ag _ (Nat.le_of_lt hzz) _ _ _ Hb5.o);have hz6:w2.heap.size<w6.heap.size:=dt;have z2:w6.cell? (w2,2)=k.signs:=cZ;have z3:w6.cell? (w2,3)=k.base:=d7;clear HT5 HR5 HK5 HS6)
        refine(Hst.o _).mono ?_;rintro e w7 ⟨rfl,hb7⟩;have HT7:=@Aa (w7.there w 0 6) (Al HT6.o aH hb7);have HR7:=@Aa (w7.rangeAt w2 0 _) (Aj HR6.o hz6 hb7);have Hb7:=Aa (Hb6.o.trans (hb7.mono Hb6.o.size));clear hb7 z2 z3;cases sb with
        |true=>
         go_wp2_with (first|((with_reducible refine Ad (op:=⟨none,.store 124 _ _,_,_,_,none⟩) rfl 124 _ _ rfl w 0 [(n:Int),b,k.signs,k.base,k.name,vl] ?_ ?_ ?_ ?_ ?_ ?_);rfl;rfl;(first|exact ar HT7.o _|exact HT7.o);kernel_rfl;(simp[Value.oneCell']);intro w9 HS9)|((with_reducible refine wpList_load_mid (op:=⟨_,.load 124 _,_,_,_,none⟩) rfl 124 _ rfl w2 0 ?_ [(n:Int),b,k.signs,k.base,k.name,vl] _ HR7.o underlying124 ?_ ?_ ?_);rfl;rfl;kernel_rfl))
         have HZ:=@Aa (w9.rangeAt w 0 [(n:Int),b,k.signs,k.base,k.name,vl]) eN;refine aF (v:=.tuple #[.agg ([(n:Int),b,k.signs,k.base,k.name,vl]:List Value).toArray,.bool true]) ?_ rfl ?_
         ·exact jz
         exact Dv.yes (Hst2.o.trans (if_pos aL)) rfl dm
        |false=>
         go_wp2_with ((with_reducible refine Ad (op:=⟨none,.store 124 _ _,_,_,_,none⟩) rfl 124 _ _ rfl w 0 [.int .i64 0,a8,a8,a8,a8,a8] ?_ ?_ ?_ ?_ ?_ ?_);rfl;rfl;(first|exact ar HT7.o _|exact HT7.o);kernel_rfl;(simp[Value.oneCell']);intro w9 HS9)
         have HZ:=@Aa (w9.rangeAt w 0 [.int .i64 0,a8,a8,a8,a8,a8]) eN;refine aF (v:=.tuple #[.agg ([.int .i64 0,a8,a8,a8,a8,a8]:List Value).toArray,.bool false]) ?_ rfl ?_
         ·exact ii
         exact Dv.no (Hst2.o.trans (if_neg aK)) rfl dm
       have hsg1:(k.signs != [])=true:=cL;have hsg2:k.signs.isEmpty=false:=cL;have hsg3:(!k.signs.isEmpty)=true:=cL;have Hw:=Aa (HF3.o.trans (if_pos ⟨rfl,fun h=>hsg h.2.1⟩));clear hsg h82;go_wp2_with (first|((with_reducible refine Ad (op:=⟨none,.store 62 _ _,_,_,_,none⟩) rfl 62 _ _ rfl w2 2 [k.signs,k.base,k.name] ?_ ?_ ?_ ?_ ?_ ?_);rfl;rfl;(exact J7 HK5.o 2 3 aK aK);kernel_rfl;(simp[Value.oneCell']);intro w6 HS6;have HT6:=@Aa (w6.there w 0 6) (HS6.o ▸ ai HT5.o _ _ _);have HR6:=@Aa (w6.rangeAt w2 0 [(n:Int),b,k.signs,k.base,k.name,vl]) (HS6.o ▸ C7 [(n:Int),b] [a8,a8,a8] [vl] [k.signs,k.base,k.name] HR5.o rfl);have Hb6:=@Aa (Below w w w6) (HS6.o ▸ Ag _ (Nat.le_of_lt hzz) _ _ _ Hb5.o);have hz6:w2.heap.size<w6.heap.size:=dt;have z2:w6.cell? (w2,2)=k.signs:=cZ;have z3:w6.cell? (w2,3)=k.base:=d7;clear HT5 HR5 HK5 HS6)|((with_reducible refine Ad (op:=⟨none,.store 124 _ _,_,_,_,none⟩) rfl 124 _ _ rfl w 0 [.int .i64 0,a8,a8,a8,a8,a8] ?_ ?_ ?_ ?_ ?_ ?_);rfl;rfl;(first|exact ar HT6.o _|exact HT6.o);kernel_rfl;(simp[Value.oneCell']);intro w9 HS9))
       have HZ:=@Aa (w9.rangeAt w 0 [.int .i64 0,a8,a8,a8,a8,a8]) ci;refine aF (v:=.tuple #[.agg ([.int .i64 0,a8,a8,a8,a8,a8]:List Value).toArray,.bool false]) ?_ rfl ?_
       ·exact ii
       exact Dv.no Hw.o rfl bF
      have n82:((st.toNat:Int) != 82)=true:=Pe (c:=st) (d:=82) h82;have Hw:=Aa (HF3.o.trans (if_pos ⟨rfl,fun h=>h82 h.1⟩));clear h82;go_wp2_with (first|((with_reducible refine Ad (op:=⟨none,.store 62 _ _,_,_,_,none⟩) rfl 62 _ _ rfl w2 2 [k.signs,k.base,k.name] ?_ ?_ ?_ ?_ ?_ ?_);rfl;rfl;(exact J7 HK5.o 2 3 aK aK);kernel_rfl;(simp[Value.oneCell']);intro w6 HS6;have HT6:=@Aa (w6.there w 0 6) (HS6.o ▸ ai HT5.o _ _ _);have HR6:=@Aa (w6.rangeAt w2 0 [(n:Int),b,k.signs,k.base,k.name,vl]) (HS6.o ▸ C7 [(n:Int),b] [a8,a8,a8] [vl] [k.signs,k.base,k.name] HR5.o rfl);have Hb6:=@Aa (Below w w w6) (HS6.o ▸ Ag _ (Nat.le_of_lt hzz) _ _ _ Hb5.o);have hz6:w2.heap.size<w6.heap.size:=dt;have z2:w6.cell? (w2,2)=k.signs:=cZ;have z3:w6.cell? (w2,3)=k.base:=d7;clear HT5 HR5 HK5 HS6)|((with_reducible refine Ad (op:=⟨none,.store 124 _ _,_,_,_,none⟩) rfl 124 _ _ rfl w 0 [.int .i64 0,a8,a8,a8,a8,a8] ?_ ?_ ?_ ?_ ?_ ?_);rfl;rfl;(first|exact ar HT6.o _|exact HT6.o);kernel_rfl;(simp[Value.oneCell']);intro w9 HS9))
      have HZ:=@Aa (w9.rangeAt w 0 [.int .i64 0,a8,a8,a8,a8,a8]) ci;refine aF (v:=.tuple #[.agg ([.int .i64 0,a8,a8,a8,a8,a8]:List Value).toArray,.bool false]) ?_ rfl ?_
      ·exact ii
      exact Dv.no Hw.o rfl bF
 have Hno:=Aa (HF.o.trans (Vu (vl:=vl) (td:=td) (st:=st) (ps:=ps) (by rw[if_neg Hst0.o];exact hlen)));have hl1:¬(ps.length:Int)=3:=aH;have hl2:((ps.length:Int) != 3)=true:=by rw[bne_iff_ne];exact hl1
 clear HF Hpl Hcells;go_wp2_with ((with_reducible refine Ad (op:=⟨none,.store 124 _ _,_,_,_,none⟩) rfl 124 _ _ rfl w 0 [.int .i64 0,a8,a8,a8,a8,a8] ?_ ?_ ?_ ?_ ?_ ?_);rfl;rfl;(first|exact ar HT.o _|exact HT.o);kernel_rfl;(simp[Value.oneCell']);intro w9 HS9)
 have HZ:=@Aa (w9.rangeAt w 0 [.int .i64 0,a8,a8,a8,a8,a8]) bu;refine aF (v:=.tuple #[.agg ([.int .i64 0,a8,a8,a8,a8,a8]:List Value).toArray,.bool false]) ?_ rfl ?_
 ·exact ii
 exact Dv.no Hno.o rfl aY
theorem V7(st:UInt8)(hst:Dr st)(s:List UInt8)(w:World)(hs:s.length<=4000000):
  Calls prog 114 #[s,.int .u8 (st.toNat:Int)] w (Dv (Gp st s) w):=by
 by_cases h:st=69
 ·exact Qfx st h s w hs
 exact Qgd st h s w hs
def Eo(o:Option Ty)(w:World)(e:Ending)(w':World):Prop:=
 (match o with
  |some t=>∃x:PT,x.ty=t/\e=.returned (.tuple #[x.ptr,.bool true])/\w.heap.size<=x.blk/\Px w' x/\∀k,x.fv.ownBlock=some k->w.heap.size<=k
  |none=>∃p:Option Addr,e=.returned (.tuple #[.pointer p,.bool false]))/\Below w w w'
theorem Eo.no{w w':World}{e:Ending}{o:Option Ty}(ho:o=none){p:Option Addr}(he:e=.returned (.tuple #[.pointer p,.bool false]))(hb:Below w w w'):Eo o w e w':=by
 rw[ho];exact⟨⟨p,he⟩,hb⟩
theorem Eo.yes{w w':World}{e:Ending}{o:Option Ty}{t:Ty}(ho:o=some t){b:Nat}{fv:Value}(he:e=.returned (.tuple #[b,.bool true]))(hwb:w.heap.size<=b)(ht:Px w' ⟨t,b,fv⟩)(hf:∀k,fv.ownBlock=some k->w.heap.size<=k)(hb:Below w w w'):Eo o w e w':=by
 rw[ho];exact⟨⟨⟨t,b,fv⟩,rfl,he,hwb,ht,hf⟩,hb⟩
theorem Vr(c:UInt8):decide (c∈([82,85,69]:List UInt8))=decide (Dr c):=by
 rw[decide_eq_decide];unfold Dr;simp
theorem Qem(w:World):Calls prog 98 #[a8] w (Eo (Ee []) w):=by
 go_enter func98,ntmps98;go_wp2_with fail;go_ret2;exact Eo.no rfl rfl (Aq _ _)
theorem Qcb(c:UInt8)(r:List UInt8)(w:World)(hs:r.length<=3999999)(hc:¬Dr c):Calls prog 98 #[.string ⟨(c::r).toArray⟩] w (Eo (Ee (c::r)) w):=by
 have HF:=Aa (show Ee (c::r)=none by unfold Ee;simp only;rw[if_pos (.inl hc)])
 have Hc:=Aa (fun W=>(show Calls prog 112 #[.string ⟨#[82,85,69]⟩,.string ⟨#[c]⟩] W fun e w'=>e=.returned (.bool false)/\W=w' from by
  have:=M8 [82,85,69] c W;rw[Vr,aC hc]at this;exact this))
 clear hc;go_enter func98,ntmps98;go_wp2_with fail;refine(Hc.o _).mono ?_;rintro e w' ⟨rfl,rfl⟩;go_wp2_with fail;go_ret2;exact Eo.no HF.o rfl (Aq _ _)
theorem Qbx(c:UInt8)(r:List UInt8)(w:World)(hs:r.length<=3999999)(hc:Dr c)(h:(Qde 61 r).2.2=false\/Aw (Qde 61 r).1=false\/(Qde 61 r).2.1=[]):Calls prog 98 #[.string ⟨(c::r).toArray⟩] w (Eo (Ee (c::r)) w):=by
 have HF:=Aa (show Ee (c::r)=if (Qde 61 r).2.2=false\/Aw (Qde 61 r).1=false then none else(if c=82 then some ⟨c,(Qde 61 r).1,[]⟩else none)by
  unfold Ee;simp only;by_cases h1:(Qde 61 r).2.2=false\/Aw (Qde 61 r).1=false
  ·rw[if_pos (.inr h1),if_pos h1]
  have h2:(Qde 61 r).2.1=[]:=by
   rcases h with h|h|h
   ·exact absurd (.inl h) h1
   ·exact absurd (.inr h) h1
   exact h
  rw[if_neg (fun h3=>h3.elim (fun h3=>h3 hc) h1),if_neg h1,if_pos h2])
 have Hc:=Aa (fun W=>(show Calls prog 112 #[.string ⟨#[82,85,69]⟩,.string ⟨#[c]⟩] W fun e w'=>e=.returned (.bool true)/\W=w' from by
  have:=M8 [82,85,69] c W;rw[Vr,aD hc]at this;exact this))
 have Hl:=Aa (fun(f:(Qde 61 r).2.2=true/\(Qde 61 r).2.1=[])=>show Yc ⟨c,(Qde 61 r).1,[]⟩=c::r from by
  rcases Ev 61 r with⟨_,e⟩|⟨p,t,e1,_,e⟩
  ·rw[e]at f;cases f.1
  rw[e]at f ⊢;simp only at f;have:=f.2;subst this;rw[e1];rfl)
 have Hcut:=Aa (fun W=>Re r 61 W aH);have hcl:=(Kp 61 r).1;generalize Qde 61 r=q at *;obtain⟨nm,rest,told⟩:=q;simp only at hcl HF h Hl;have Hh:=Aa h;have Hc82:=Aa hc;clear hc h;go_enter func98,ntmps98;go_wp2_with fail;refine(Hc.o _).mono ?_;rintro e w' ⟨rfl,rfl⟩;go_wp2_with fail;refine(Hcut.o _).mono ?_;rintro e w1 ⟨rfl,k1,rfl⟩;unfold Zz;cases told with
 |false=>
  go_wp2_with fail;go_ret2;exact Eo.no (HF.o.trans (if_pos aL)) rfl (below_drewN (Aq _ _) _)
 |true=>
  have Hname:=Aa (fun W=>Ke nm W aH);generalize hnb:Aw nm=nb at *;have Hnb:=Aa hnb;clear hnb;go_wp2_with fail;refine(Hname.o _).mono ?_;rintro e w2 ⟨rfl,hb2⟩;have Hb2:=@Aa (Below w w w2) ((below_drewN (Aq _ _) k1).trans (by simpa using hb2));clear hb2;cases nb with
  |false=>
   go_wp2_with fail;go_ret2;exact Eo.no (HF.o.trans (if_pos aL)) rfl Hb2.o
  |true=>
   obtain rfl:rest=[]:=by
    rcases Hh.o with h|h|h
    ·cases h
    ·cases h
    exact h
   have HF2:=Aa (HF.o.trans (if_neg aL));have Hl2:=Aa (Hl.o aL);have hz:=Hb2.o.size;rcases Decidable.em (c=82)with h82|h82
   ·have t1:((c.toNat:Int) == 82)=true:=Be (d:=82) h82;have HF3:=Aa (HF2.o.trans (if_pos h82));clear h82;go_wp2_with fail;go_quiet (fail)
    go_wp2_with fail;go_ret2;refine Eo.yes HF3.o (b:=w2.heap.size) (fv:=.slice none 0 0) rfl Hb2.o.size ?_ (fun k hk=>by simp[Value.ownBlock]at hk) dz;refine⟨by simp,by first|exact Pf.new _ _ _|exact Pf.belowAt (Pf.new w2 _ _) aL (by first|exact below_drewN (Aq _ _) _|exact(Aq _ _).drew),by simp,by simp,by simp,?_,none,0,rfl,by simp,rfl,ag _,fun h=>absurd h aL⟩;rw[Hl2.o];simp
   have t1:((c.toNat:Int) == 82)=false:=Am (d:=82) h82;have HF3:=Aa (HF2.o.trans (if_neg h82));clear h82;go_wp2_with fail;go_quiet (fail)
   go_wp2_with fail;go_ret2;exact Eo.no HF3.o rfl dz
def Qhu(c:UInt8)(nm:List UInt8):Option (List Fd)->Option Ty
 |some r=>some ⟨c,nm,r⟩
 |none=>none
theorem Zq{c:UInt8}{r nm rest:List UInt8}(hc:Dr c)(h:Qde 61 r=(nm,rest,true))(hn:Aw nm=true)(hr:rest≠[]):Ee (c::r)=Qhu c nm (E9 c (Ai 44 rest) []):=by
 unfold Ee;simp only[h];rw[if_neg (by simp[hc,hn]),if_neg hr];cases E9 c (Ai 44 rest) []<;>rfl
theorem Zt{c:UInt8}{ps:List (List UInt8)}{acc:List Fd}{k:Nat}(hk:k<ps.length):E9 c (ps.drop k) acc=(match Gp c ps[k]with|none=>none|some f=>if acc.length=8\/El acc f=false then none else E9 c (ps.drop (k+1)) (acc++[f])):=by
 rw[List.drop_eq_getElem_cons hk,E9];cases Gp c ps[k]<;>rfl
theorem Qcw{acc:List Fd}{f:Fd}(h:∀g∈acc,g.name≠f.name/\g.tag<f.tag):El acc f=true:=Gr.2 h
theorem Qbk{acc:List Fd}{f x:Fd}(hx:x∈acc)(h:f.tag<=x.tag\/x.name=f.name):El acc f=false:=by
 cases hh:El acc f with
 |false=>rfl
 |true=>
  obtain⟨h1,h2⟩:=Gr.1 hh x hx;rcases h with h|h
  ·omega
  exact absurd h h1
theorem Ps(w:World)(a:Addr)(v:Value):w.grownBy (w.setCell a v) (some a.block):=
 ⟨rfl,rfl,rfl,by simp,fun k _ hk=>Go.heap_setCell_other _ _ _ _ (fun e=>hk (by rw[e]))⟩
theorem J6{w:World}{base k n:Nat}{e:TypeId}{v:Value}{xs:List Value}(h:w.ownsRow base e k v n xs):∃A m c,v=.slice A m c:=by
 rcases h.2 with⟨rfl,_⟩|⟨g,cap,cur,rfl,_⟩
 ·exact⟨_,_,_,rfl⟩
 exact⟨_,_,_,rfl⟩
theorem Pv.range{w:World}{A:Option Addr}{fs:List Fd}(hr:B9 w A (fs.length*6) (fs.flatMap Qz)){i:Nat}(hi:i<fs.length):∃b off,A=some ⟨b,off,none⟩/\b<w.heap.size/\w.rangeAt b (off+i*6) (Qz fs[i]):=by
 obtain⟨b,off,e,hlt,hc⟩:=hr.elem Qc9 aK hi;exact⟨b,off,e,hlt,fun j v hv=>by rw[Nat.add_assoc];exact hc j v hv⟩
theorem Tryz.infoIf:(prog.info? 124).map (fun i=>(i.zero,i.size,i.bytes))=some (some (.agg #[.int .i64 0,a8,a8,a8,a8,a8]),6,88):=aO
theorem Qhm(fs:List Fd):∀y∈fs.flatMap Qz,y.oneCell'=true:=by
 intro y hy;obtain⟨f,_,hf⟩:=List.mem_flatMap.1 hy;simp[Qz]at hf;rcases hf with rfl|rfl|rfl|rfl|rfl|rfl<;>rfl
theorem Qcn(c:UInt8)(r nm rest:List UInt8)(w:World)(hs:r.length<=3999999)(hc:Dr c)(h:Qde 61 r=(nm,rest,true))(hn:Aw nm=true)(hr:rest≠[]):
  Calls prog 98 #[.string ⟨(c::r).toArray⟩] w (Eo (Ee (c::r)) w):=by
 have HF:=Aa (Zq hc h hn hr)
 have Hc:=Aa (fun W=>(show Calls prog 112 #[.string ⟨#[82,85,69]⟩,.string ⟨#[c]⟩] W fun e w'=>e=.returned (.bool true)/\W=w' from by
  have:=M8 [82,85,69] c W;rw[Vr,aD hc]at this;exact this))
 have Hcut:=Aa (fun W=>Re r 61 W aH);have hcl:=Kp 61 r;have Hcut2:=Aa h;rw[h]at Hcut hcl;simp only at hcl;have hcl1:=hcl.1;have hcl2:=hcl.2;have Hname:=Aa (fun W=>Ke nm W aH);rw[hn]at Hname;have Hsp:=Aa (fun W=>Sh rest 44 W aH);have hne:=Dm 44 rest;have Hpl:=Aa (Ak 44 rest);have Hln:=Aa (E7 44 rest);generalize Ai 44 rest=ps at HF Hsp hne Hpl Hln;have Hcs:=Aa hc;have hpsl:ps.length<=4000000:=by have:=Hln.o;omega
 have hr1:rest.isEmpty=false:=dv;have hr2:(rest == [])=false:=dv;clear h hn hr hc hcl;go_enter func98,ntmps98;go_wp2_with fail;refine(Hc.o _).mono ?_;rintro e w' ⟨rfl,rfl⟩;go_wp2_with fail;refine(Hcut.o _).mono ?_;rintro e w1 ⟨rfl,k1,rfl⟩;unfold Zz;go_wp2_with fail;refine(Hname.o _).mono ?_;rintro e w2 ⟨rfl,hb2⟩;have Hb2:=@Aa (Below w w w2) ((below_drewN (Aq _ _) k1).trans (by simpa using hb2));have hz2:=Hb2.o.size;clear hb2;go_wp2_with fail;refine(Hsp.o _).mono ?_;rintro e w3 ⟨v,rfl,ho,hb3⟩;obtain⟨g,cg,rfl,hg1,hg2,hcells⟩:=Mw ho hne;have hg1':w2.heap.size+1<=g:=by simpa using hg1
 have hz3:w2.heap.size<w3.heap.size:=aH;have HT0:=@Aa (w3.rangeAt w2 0 [.int .u8 (c.toNat:Int),nm,.slice none 0 0,.string ⟨(c::r).toArray⟩]) (Aj (Bw w2 _ _) aL hb3);have HK0:=@Aa (w3.there w2 0 4) (Al (Cc w2 [.int .u8 (c.toNat:Int),nm,.slice none 0 0,.string ⟨(c::r).toArray⟩] _) aL hb3);have HB0:=@Aa (Pf w3 w2.heap.size) ((Pf.new w2 _ _).belowAt aL hb3);have Hb3:=@Aa (Below w w w3) ((Hb2.o.alloc Hb2.o.size _).trans (hb3.mono aM));have Hcells:=@Aa (∀j (hj:j<ps.length),w3.cell? ⟨g,j,none⟩=some (.string ⟨ps[j].toArray⟩)) hcells;have Hown0:=Aa (World.ownsRow_nil w3 w3 124 6);clear ho hb3 hcells hg1 hne;go_wp2_with fail
 go_loopw [53] (fun i wr=>∃(k:Nat) (acc:List Fd) (fv:Value),i=.int .i64 k/\k<=ps.length/\acc.length<=8/\Hid (Ee (c::r)=Qhu c nm (E9 c (ps.drop k) acc)) /\
   Hid (wr.ownsRow w3 124 6 fv acc.length (acc.flatMap Qz))/\Hid (Below w w wr)/\w3.heap.size<=wr.heap.size /\
   Hid (∀j (hj:j<ps.length),wr.cell? ⟨g,j,none⟩=some (.string ⟨ps[j].toArray⟩)) /\
   Hid (wr.rangeAt w2 0 [.int .u8 (c.toNat:Int),nm,fv,.string ⟨(c::r).toArray⟩])/\Hid (wr.there w2 0 4)/\Hid (Pf wr w2.heap.size)) (fun i _=>ps.length - (intOf i).toNat)
 case atStart=>exact⟨0,[],.slice none 0 0,rfl,ag _,by simp,HF.o,Hown0.o,Hb3.o,Ap _,Hcells.o,HT0.o,HK0.o,HB0.o⟩
 case round=>
  obtain⟨wo,rfl⟩:∃wo:World,wo=wr:=⟨_,rfl⟩
  obtain⟨k,acc,fv,rfl,hk,ha8,hft,hown,hbr,hzr,hpr,hT,hK,hB⟩:=hrel;have i1:(0:Int)<=(k:Int):=aH;obtain⟨A,cA,rfl,hrow⟩:=B9.ownK hown.o aZ;have Hrow:=Aa hrow;have t0:wo.cell? (w2,0)=some (.int .u8 (c.toNat:Int)):=by simpa using Ab hT.o 0 rfl
  have t2:wo.cell? (w2,2)=some (.slice A acc.length cA):=by simpa using Ab hT.o 2 rfl
  clear hrow;by_cases hlt:k<ps.length
  ·have i2:(k:Int)<(ps.length:Int):=aH;have cell:=hpr.o k hlt;have hft2:=Aa ((Zt (c:=c) (acc:=acc) hlt) ▸ hft.o);have hplk:=Hpl.o _ (ae hlt);generalize ps[k]=p at cell hft2 hplk;have Hread:=Aa (fun W=>V7 c Hcs.o p W aH);generalize Gp c p=o at hft2 Hread;go_wp2_with fail;refine(Hread.o _).mono ?_;rintro e w4 ⟨hcase,hb4⟩;have Hb4:=Aa (hbr.o.trans (hb4.mono hbr.o.size));cases o with
   |none=>
    obtain⟨n,a1,a2,a3,a4,a5,rfl⟩:=hcase;have Hend:=@Aa (Ee (c::r)=none) hft2.o;go_wp2_with fail;go_ret2;exact Eo.no Hend.o rfl (Hb4.o.alloc Hb4.o.size _)
   |some f=>
    have hcase':e=.returned (.tuple #[.agg #[(f.tag:Int),f.name,f.kind.signs,f.kind.base,f.kind.name,f.given],.bool true]):=hcase;subst hcase';clear hcase;have s0:=(hb4.cell (p:=⟨w2.heap.size,0,none⟩) (show w2.heap.size<wo.heap.size by omega)).trans t0;have s2:=(hb4.cell (p:=⟨w2.heap.size,2,none⟩) (show w2.heap.size<wo.heap.size by omega)).trans t2;have hz4:wo.heap.size<=w4.heap.size:=hb4.size;have hn4:¬(w2.heap.size=w4.heap.size):=aH;have hn5:w2.heap.size<w4.heap.size:=aH;have Hb4r:=Aa hb4;clear t0 t2 hb4;have hft3:=@Aa (Ee (c::r)=Qhu c nm (if acc.length=8\/El acc f=false then none else E9 c (ps.drop (k+1)) (acc++[f]))) hft2.o;clear hft2;rcases Nat.eq_or_lt_of_le ha8 with h8|h8
    ·have q1:((acc.length:Int) == 8)=true:=by simp[h8]
     have Hend:=Aa (hft3.o.trans (by rw[if_pos (.inl h8)]));clear h8;go_wp2_with fail;go_ret2;exact Eo.no Hend.o rfl (Hb4.o.alloc Hb4.o.size _)
    have q1:((acc.length:Int) == 8)=false:=cb;go_wp2_with fail;have f0:(w4.alloc (.cells #[(f.tag:Int),f.name,f.kind.signs,f.kind.base,f.kind.name,f.given] 124)).cell? (w4,0)=(f.tag:Int):=aL;have f1:(w4.alloc (.cells #[(f.tag:Int),f.name,f.kind.signs,f.kind.base,f.kind.name,f.given] 124)).cell? (w4,1)=f.name:=aL;have HR0:=Aa (Bw w4 [(f.tag:Int),f.name,f.kind.signs,f.kind.base,f.kind.name,f.given] 124);go_loopw [81] (fun jj wq=>∃j:Nat,jj=.int .i64 j/\j<=acc.length/\Hid (∀x∈acc.take j,x.name≠f.name/\x.tag<f.tag)/\Hid (Below w4 w4 wq)/\w4.heap.size<wq.heap.size/\Hid (wq.rangeAt w4 0 [(f.tag:Int),f.name,f.kind.signs,f.kind.base,f.kind.name,f.given])) (fun jj _=>acc.length - (intOf jj).toNat)
    case atStart=>exact⟨0,rfl,ag _,by intro x hx;simp at hx,(Aq _ _).alloc (Ap _) _,by simp,HR0.o⟩
    case round=>
     clear f0 f1;obtain⟨j,rfl,hj,hin,hbq,hzq,hfr⟩:=hrel;have j1:(0:Int)<=(j:Int):=aH;have f0:wr.cell? (w4,0)=(f.tag:Int):=by simpa using Ab hfr.o 0 rfl
     have f1:wr.cell? (w4,1)=f.name:=by simpa using Ab hfr.o 1 rfl
     have hnq:¬(w4.heap.size=wr.heap.size):=aH;have Hbq:=Aa (Hb4.o.trans (hbq.o.mono Hb4.o.size));by_cases hjl:j<acc.length
     ·have j2:(j:Int)<(acc.length:Int):=aH;obtain⟨bA,oA,rfl,hbA,hrg⟩:=Pv.range ((Hrow.o.below Hb4r.o).below hbq.o) hjl;have Hts:=Aa (Ch acc j hjl);have Hmem:=Aa (ae hjl);have Hrg:=@Aa (wr.rangeAt bA (oA+j*6) [.int .i64 (acc[j].tag:Int),.string ⟨acc[j].name.toArray⟩,.string ⟨acc[j].kind.signs.toArray⟩,.string ⟨acc[j].kind.base.toArray⟩,.string ⟨acc[j].kind.name.toArray⟩,.string ⟨acc[j].given.toArray⟩]) hrg;clear hrg;generalize acc[j]=x at Hts Hmem Hrg;rcases Decidable.em (x.name=f.name)with hnm|hnm
      ·have q2:(x.name == f.name)=true:=by simp[hnm]
       have Hend:=Aa (hft3.o.trans (by rw[if_pos (.inr (Qbk Hmem.o (.inr hnm)))]));clear hnm;go_wp2_with ((with_reducible refine wpList_load_mid (op:=⟨_,.load 124 _,_,_,_,none⟩) rfl 124 _ rfl bA (oA+j*6) ?_ _ _ Hrg.o underlying124 ?_ ?_ ?_);rfl;rfl;kernel_rfl)
       go_ret2;exact Eo.no Hend.o rfl (Hbq.o.alloc Hbq.o.size _)
      have q2:(x.name == f.name)=false:=by simp[hnm]
      rcases aG x.tag f.tag with ht|ht
      ·have q3:decide ((f.tag:Int)<=(x.tag:Int))=false:=eI
       have Hin:=Aa (show ∀y∈acc.take (j+1),y.name≠f.name/\y.tag<f.tag from by
        intro y hy;rw[Hts.o]at hy;rcases af.1 hy with hy|hy
        ·exact hin.o y hy
        simp at hy;subst hy;exact⟨hnm,ht⟩)
       clear hnm;go_wp2_with ((with_reducible refine wpList_load_mid (op:=⟨_,.load 124 _,_,_,_,none⟩) rfl 124 _ rfl bA (oA+j*6) ?_ _ _ Hrg.o underlying124 ?_ ?_ ?_);rfl;rfl;kernel_rfl)
       go_roundw
       case rel=>exact⟨j+1,by go_num,by omega,Hin.o,hbq.o.alloc (Nat.le_of_lt hzq) _,by simp;omega,Aj hfr.o hzq ((Aq wr.heap.size wr).alloc (Ap _) _)⟩
       case measure=>simp[intOf];omega
      have q3:decide ((f.tag:Int)<=(x.tag:Int))=true:=by rw[decide_eq_true_iff];omega
      have Hend:=Aa (hft3.o.trans (by rw[if_pos (.inr (Qbk Hmem.o (.inl ht)))]));clear hnm;go_wp2_with ((with_reducible refine wpList_load_mid (op:=⟨_,.load 124 _,_,_,_,none⟩) rfl 124 _ rfl bA (oA+j*6) ?_ _ _ Hrg.o underlying124 ?_ ?_ ?_);rfl;rfl;kernel_rfl)
      go_ret2;exact Eo.no Hend.o rfl (Hbq.o.alloc Hbq.o.size _)
     ·have j2:¬(j:Int)<(acc.length:Int):=aH
      have Hft4:=Aa (show Ee (c::r)=Qhu c nm (E9 c (ps.drop (k+1)) (acc++[f]))from by
       rw[hft3.o,if_neg];rintro(h|h)
       ·omega
       rw[Qcw (fun y hy=>hin.o y (by rw[au aH];exact hy))]at h;cases h)
      have hb1:Below wo wo wr:=Hb4r.o.trans (hbq.o.mono hz4);have Hown:=Aa (Cm hown.o hb1);have Hpr:=@Aa (∀j (hj:j<ps.length),wr.cell? ⟨g,j,none⟩=some (.string ⟨ps[j].toArray⟩)) (fun j hj=>(hb1.cell (p:=⟨g,j,none⟩) (show g<wo.heap.size by omega)).trans (hpr.o j hj));have HT1:=Aa (Aj hT.o (show w2.heap.size<wo.heap.size by omega) hb1);have HB1:=Aa (hB.o.belowAt (show w2.heap.size<wo.heap.size by omega) hb1);have HK1:=Aa (Al hK.o (show w2.heap.size<wo.heap.size by omega) hb1);have hz5:w3.heap.size<=wr.heap.size:=aH;have hz6:w.heap.size<=w3.heap.size:=aH;clear hb1 f0 f1;go_wp2_with fail;refine Bi [98,99,100,101,102,103,104,105,106,107,999] aO aO aO (fun u=>by dsimp only[Qbm,Bm,List.set,am,Nat.reduceAdd])
       (fun i v W=>match i with|0=>v=w2.heap.size|1=>v=w2.heap.size|2=>v=w2.heap.size|3=>v=(w2,2)|4=>v=.slice A acc.length cA|5=>v=.agg #[(f.tag:Int),f.name,f.kind.signs,f.kind.base,f.kind.name,f.given]|8=>v=w2.heap.size|9=>v=(w2,2)|_=>True)
       (fun L U W=>Below w w W/\w3.heap.size<=W.heap.size/\(∀j (hj:j<ps.length),W.cell? ⟨g,j,none⟩=some (.string ⟨ps[j].toArray⟩))/\(W.there w2 0 4/\Pf W w2.heap.size) /\
        (L 10=false->W.rangeAt w2 0 [.int .u8 (c.toNat:Int),nm,.slice A acc.length cA,.string ⟨(c::r).toArray⟩])/\(L 10=true->W.rangeAt w2 0 [.int .u8 (c.toNat:Int),nm,U 7,.string ⟨(c::r).toArray⟩]) /\
        (L 5=false->W.rangeAt w4 0 [(f.tag:Int),f.name,f.kind.signs,f.kind.base,f.kind.name,f.given])/\(L 7=false->W.ownsRow w3 124 6 (.slice A acc.length cA) acc.length (acc.flatMap Qz))/\(L 7=true->W.ownsRow w3 124 6 (U 7) (acc.length+1) (acc.flatMap Qz++Qz f)) /\
        (L 6=true->L 7=false->∃q,U 6=.slice (some ⟨q,0,none⟩) 1 1/\W.rangeAt q 0 [(f.tag:Int),f.name,f.kind.signs,f.kind.base,f.kind.name,f.given]))
       (fun _ _=>True) (fun w w' _ i v h=>by revert h;exact fun h=>h) ⟨Hbq.o.drew,hz5,Hpr.o,⟨HK1.o,HB1.o⟩,fun _=>HT1.o,by simp,fun _=>hfr.o,fun _=>Hown.o,by simp,by simp⟩ ?_ ?_
      ·repeat (first|exact Ah.nil|(refine Ah.cons ?_ ?_;rotate_left))
       all_goals
        rintro L U W hL hpre hR hun hdep K hK;have Hdep:=Aa hdep;have HR:=Aa hR;clear hun hdep hR;first|(simp[Region.binds]at hpre;done)|simp[Region.binds]at hpre|clear hpre
       ·go_simp;exact hK _ _ _ rfl Ac HR.o rfl
       ·go_simp;exact hK _ _ _ rfl Ac HR.o rfl
       ·have u1:=hpre.2;go_simp;exact hK w2.heap.size _ _ rfl Ac HR.o (by simp[Act.put,u1])
       ·have u2:=hpre.2;go_simp;exact hK (w2,2) _ _ rfl Ac HR.o (by simp[Act.put,u2])
       ·have h10:=(Ax Hdep.o 10 7 rfl (Ax Hdep.o 7 4 rfl hL))
        obtain⟨r1,r2,r3,r4,r5,r6,r7,r8,r9,r0⟩:=HR.o;have u3:=hpre.2;have c2:W.cell? (w2,2)=some (.slice A acc.length cA):=by simpa using Ab (r5 h10) 2 rfl
        clear r1 r2 r3 r4 r5 r6 r7 r8 r9 r0;go_simp;exact hK (.slice A acc.length cA) _ _ rfl Ac HR.o (by simp[Act.put,u3])
       ·obtain⟨r1,r2,r3,r4,r5,r6,r7,r8,r9,r0⟩:=HR.o;rw[if_pos cD];refine wp_load_mid 124 _ rfl w4 0 rfl [(f.tag:Int),f.name,f.kind.signs,f.kind.base,f.kind.name,f.given] _ (r7 hL) underlying124 rfl aO ?_;exact hK (.agg ([(f.tag:Int),f.name,f.kind.signs,f.kind.base,f.kind.name,f.given]:List Value).toArray) _ _ rfl Ac ⟨r1,r2,r3,r4,r5,r6,fun h=>by simp at h,r8,r9,r0⟩ rfl
       ·obtain⟨r1,r2,r3,r4,r5,r6,r7,r8,r9,r0⟩:=HR.o;have R1:=Aa r1;have u5:=hpre.2;have HF5:=Aa (Bw W [(f.tag:Int),f.name,f.kind.signs,f.kind.base,f.kind.name,f.given] 124)
        have HRR:=Aa (show (∀j (hj:j<ps.length),(W.alloc (.cells #[(f.tag:Int),f.name,f.kind.signs,f.kind.base,f.kind.name,f.given] 124)).cell? ⟨g,j,none⟩=some (.string ⟨ps[j].toArray⟩))/\((W.alloc (.cells #[(f.tag:Int),f.name,f.kind.signs,f.kind.base,f.kind.name,f.given] 124)).there w2 0 4/\Pf (W.alloc (.cells #[(f.tag:Int),f.name,f.kind.signs,f.kind.base,f.kind.name,f.given] 124)) w2.heap.size) /\
         (L 10=false->(W.alloc (.cells #[(f.tag:Int),f.name,f.kind.signs,f.kind.base,f.kind.name,f.given] 124)).rangeAt w2 0 [.int .u8 (c.toNat:Int),nm,.slice A acc.length cA,.string ⟨(c::r).toArray⟩])/\(L 10=true->(W.alloc (.cells #[(f.tag:Int),f.name,f.kind.signs,f.kind.base,f.kind.name,f.given] 124)).rangeAt w2 0 [.int .u8 (c.toNat:Int),nm,U 7,.string ⟨(c::r).toArray⟩]) /\
         (L 5=false->(W.alloc (.cells #[(f.tag:Int),f.name,f.kind.signs,f.kind.base,f.kind.name,f.given] 124)).rangeAt w4 0 [(f.tag:Int),f.name,f.kind.signs,f.kind.base,f.kind.name,f.given])/\(L 7=false->(W.alloc (.cells #[(f.tag:Int),f.name,f.kind.signs,f.kind.base,f.kind.name,f.given] 124)).ownsRow w3 124 6 (.slice A acc.length cA) acc.length (acc.flatMap Qz))/\(L 7=true->(W.alloc (.cells #[(f.tag:Int),f.name,f.kind.signs,f.kind.base,f.kind.name,f.given] 124)).ownsRow w3 124 6 (U 7) (acc.length+1) (acc.flatMap Qz++Qz f))
         from⟨fun j hj=>by rw[World.cell?_alloc_old _ _ _ (show g≠W.heap.size by omega)];exact r3 j hj,⟨ar r4.1 _,r4.2.belowAt (show w2.heap.size<W.heap.size by omega) ((Aq _ _).alloc (Ap _) _)⟩,fun h=>World.rangeAt_alloc (r5 h) _,fun h=>World.rangeAt_alloc (r6 h) _,fun h=>World.rangeAt_alloc (r7 h) _,fun h=>(r8 h).alloc _,fun h=>(r9 h).alloc _⟩)
        clear r1 r3 r4 r5 r6 r7 r8 r9 r0;go_simp;refine hK (.slice (W,0) 1 1) _ _ Ac Ac ⟨R1.o.alloc R1.o.size _,by simp;omega,HRR.o.1,HRR.o.2.1,HRR.o.2.2.1,HRR.o.2.2.2.1,HRR.o.2.2.2.2.1,HRR.o.2.2.2.2.2.1,HRR.o.2.2.2.2.2.2,fun _ _=>⟨W.heap.size,rfl,HF5.o⟩⟩ (by simp[Act.put,u5])
       ·obtain⟨r1,r2,r3,r4,r5,r6,r7,r8,r9,r0⟩:=HR.o;have h10:=(Ax Hdep.o 10 7 rfl hL)
        have h7:=r8 hL;obtain⟨q,e1,e2⟩:=r0 hpre.2 hL;obtain⟨i0,hi,hz0,hz1,hz2'⟩:=info_parts Tryz.infoIf;rw[if_pos cD];refine wp_append_own W (.tmp 102) (.tmp 104) 156 rfl w3 124 i0 (.agg #[.int .i64 0,a8,a8,a8,a8,a8]) 6 88 underlying156 hi hz0 hz1 hz2' rfl aK (.slice A acc.length cA) acc.length (acc.flatMap Qz) hpre.1.2 h7 ⟨q,0,none⟩ 1 1 (Qz f) e1 (by simp[Qz]) ?_ (fun y hy=>Qhm [f] y (by simpa using hy)) aZ aH r2 ?_
        ·intro i x hx;rw[Yk];have:=e2 i x hx;simpa using this
        intro v' w' hown' hgr _;have hbw:Below w3 W w':=(Aq _ _).grown hgr r2 (fun k hk=>(h7.lt k hk).1);refine hK v' w' _ Ac Ac ⟨r1.trans (hbw.mono hz6),ad r2 hbw.size,fun j hj=>(hbw.cell (p:=⟨g,j,none⟩) (show g<w3.heap.size by omega)).trans (r3 j hj),⟨Al r4.1 hz3 hbw,r4.2.belowAt hz3 hbw⟩,fun h=>Aj (r5 h) hz3 hbw,fun h=>absurd h10 (by rw[show L 10=true from h];decide),fun h=>absurd hpre.2 (by rw[Ax Hdep.o 6 5 rfl h];decide),fun h=>by simp at h,fun _=>hown',fun _ h=>by simp at h⟩ rfl
       ·have u0:=hpre.1.2;go_simp;exact hK w2.heap.size _ _ rfl Ac HR.o aI
       ·have u8:=hpre.2;go_simp;exact hK (w2,2) _ _ rfl Ac HR.o aI
       ·obtain⟨r1,r2,r3,r4,r5,r6,r7,r8,r9,r0⟩:=HR.o;have R1:=Aa r1;have l7:L 7=true:=by first|exact hpre.2.1|exact hpre.2.1.1
        have h5:=r5 hL;have h9:=r9 l7;obtain⟨A7,n7,c7,e7⟩:=J6 h9;rw[e7]at h9;obtain⟨y2,c2⟩:=Option.isSome_iff_exists.1 (r4.1 2 aK).1;rw[am]at c2;have z2:W.frozen? (w2,2)=false:=by simpa using(r4.1 2 aK).2
        have hT10:=@Aa ((W.setCell ⟨w2.heap.size,2,none⟩ (.slice A7 n7 c7)).rangeAt w2 0 [.int .u8 (c.toNat:Int),nm,(.slice A7 n7 c7),.string ⟨(c::r).toArray⟩]) (C7 [.int .u8 (c.toNat:Int),nm] [.slice A acc.length cA] [.string ⟨(c::r).toArray⟩] [.slice A7 n7 c7] h5 rfl);have hK10:=@Aa ((W.setCell ⟨w2.heap.size,2,none⟩ (.slice A7 n7 c7)).there w2 0 4) (ai r4.1 w2 2 [.slice A7 n7 c7]);have hBk10:=Aa (r4.2.set (o:=2) (.slice A7 n7 c7))
        have hP10:=Aa (show ∀j (hj:j<ps.length),(W.setCell ⟨w2.heap.size,2,none⟩ (.slice A7 n7 c7)).cell? ⟨g,j,none⟩=some (.string ⟨ps[j].toArray⟩)from fun j hj=>by
         rw[World.cell?_setCell_other _ _ _ _ bV];exact r3 j hj)
        have hO10:=@Aa ((W.setCell ⟨w2.heap.size,2,none⟩ (.slice A7 n7 c7)).ownsRow w3 124 6 (.slice A7 n7 c7) (acc.length+1) (acc.flatMap Qz++Qz f)) (h9.kept (Ps W _ (.slice A7 n7 c7)) (.inr (fun e=>by have:=(h9.lt _ e).1;simp at this;omega)));have hz10:w3.heap.size<=(W.setCell ⟨w2.heap.size,2,none⟩ (.slice A7 n7 c7)).heap.size:=by simpa using r2
        have hB10:=@Aa (Below w w (W.setCell ⟨w2.heap.size,2,none⟩ (.slice A7 n7 c7))) (r1.setCell hz2 _);clear r1 r3 r4 r5 r6 r7 r8 r9 r0 h5 h9;go_simp;exact hK undef _ _ Ac Ac ⟨hB10.o,hz10,hP10.o,⟨hK10.o,hBk10.o⟩,fun h=>by simp at h,fun _=>by show World.rangeAt _ _ _ [_,_,U 7,_];rw[e7];exact hT10.o,fun h=>absurd l7 (by rw[(Ax Hdep.o 7 6 rfl (Ax Hdep.o 6 5 rfl h))];decide),fun h=>absurd l7 (by rw[show L 7=false from h];decide),fun _=>by show World.ownsRow _ _ _ _ (U 7) _ _;rw[e7];exact hO10.o,fun _ h=>absurd l7 (by rw[show L 7=false from h];decide)⟩ (by simp[Act.put,hpre,e7])
      rintro L U W hL hφ hR;obtain⟨hbW,hzW,hprW,hKW,_,hTW,_,_,hoW,_⟩:=hR;have hTW':=hTW (hL 10 aK);have hoW':=hoW (hL 7 aK);generalize U 7=V at hTW' hoW';have HbW:=Aa hbW;have HprW:=Aa hprW;have HKW:=Aa hKW.1;have HBW:=Aa hKW.2;have HTW:=Aa hTW';have HoW:=Aa hoW';clear hL hφ hbW hprW hKW hTW hoW hTW' hoW';go_wp2_with fail;go_roundw
      case rel=>exact⟨k+1,acc++[f],V,by go_num,by omega,by simp;omega,Hft4.o,by rw[ah,List.flatMap_append,show [f].flatMap Qz=Qz f from by simp];exact HoW.o,HbW.o,hzW,HprW.o,HTW.o,HKW.o,HBW.o⟩
      case measure=>simp[intOf];omega
  ·have i2:¬(k:Int)<(ps.length:Int):=aH;have Hfin:=Aa (show Ee (c::r)=some ⟨c,nm,acc⟩by rw[hft.o,List.drop_of_length_le aH];rfl);go_wp2_with fail;go_ret2;refine Eo.yes Hfin.o (b:=w2.heap.size) (fv:=.slice A acc.length cA) rfl hz2 ?_ (fun k hk=>by have:=(hown.o.lt k hk).1;omega) hbr.o;refine⟨show w2.heap.size<wo.heap.size by omega,hB.o,by simpa using Ab hT.o 0 rfl,by simpa using Ab hT.o 1 rfl,by simpa using Ab hT.o 2 rfl,?_,A,cA,rfl,ha8,Hrow.o⟩;have hB:=(Ew.1 Hfin.o).2;show _=some (Value.string ⟨(Yc ⟨c,nm,acc⟩).toArray⟩);rw[hB];simpa using Ab hT.o 3 rfl
theorem Zc(s:List UInt8)(w:World)(hs:s.length<=4000000):
  Calls prog 98 #[s] w (Eo (Ee s) w):=by
 cases s with
 |nil=>exact Qem w
 |cons c r=>
  simp at hs;by_cases hc:Dr c
  ·by_cases h:(Qde 61 r).2.2=false\/Aw (Qde 61 r).1=false\/(Qde 61 r).2.1=[]
   ·exact Qbx c r w aH hc h
   simp only[not_or]at h;exact Qcn c r (Qde 61 r).1 (Qde 61 r).2.1 w aH hc (Prod.ext rfl (Prod.ext rfl (by simpa using h.1))) (by simpa using h.2.1) h.2.2
  exact Qcb c r w aH hc
end
end Go.Proofs.YtkgkoicedddkmaaGreatDoor
