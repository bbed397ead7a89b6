/- Texts joined. Conditions: as each theorem names them. -/
import Derived.BigRegion
import Derived.BigQuiet
import Derived.Deep.QuietTactic
import Derived.Test.YtmmhmlmfhpfgbaaGreatDoorF16
import Derived.Test.YtmmhmlmfhpfgbaaGreatDoorF17
set_option maxRecDepth 100000
set_option maxHeartbeats 32000000
set_option linter.unusedVariables false
set_option linter.unusedSimpArgs false
namespace Go.Proofs.YtmmhmlmfhpfgbaaGreatDoor
open Go.RowKit Go.Proofs.Tryz
section
attribute [local go_sem] Qoe Qnf Qmu Qk2 ByteArray.mk_append_mk
theorem Mo(c:UInt8)(s:List UInt8):(Dl c s).1.length<=s.length/\(Dl c s).2.1.length<=s.length:=by
 rcases Ga c s with⟨_,h⟩|⟨p,t,rfl,_,h⟩
 ·rw[h];simp
 rw[h];simp;omega
def Nn(st:UInt8)(ps:List (List UInt8))(vl:List UInt8)(td:Bool):Option Fd:=
 if st=69 then
  match Me ps with
  |some (n,b)=>if td=true then none else some ⟨n,b,Kd.nil,vl⟩
  |none=>none
 else
  match M6 ps with
  |some (n,b,c)=>(match Cs c with
   |some k=>if td=true/\¬(st=82/\k.signs=[]/\Cg k.base vl=true)then none else some ⟨n,b,k,vl⟩
   |none=>none)
  |none=>none
theorem Qa4(st:UInt8)(s:List UInt8):Jl st s=Nn st (Al 58 (Dl 61 s).1) (Dl 61 s).2.1 (Dl 61 s).2.2:=rfl
theorem Qab{st:UInt8}{ps:List (List UInt8)}{vl:List UInt8}{td:Bool}(h:ps.length≠if st=69 then 2 else 3):Nn st ps vl td=none:=by
 unfold Nn;by_cases e:st=69
 ·rw[if_pos e]at h ⊢;match ps,h with
  |[],_=>rfl
  |[_],_=>rfl
  |[_,_],h=>exact absurd rfl h
  |_::_::_::_,_=>rfl
 rw[if_neg e]at h ⊢;match ps,h with
 |[],_=>rfl
 |[_],_=>rfl
 |[_,_],_=>rfl
 |[_,_,_],h=>exact absurd rfl h
 |_::_::_::_::_,_=>rfl
def Pl(a b:List UInt8)(n:Nat):Prop:=Cx a=some n/\1<=n/\n<=200/\Be b=true
theorem Xk{st:UInt8}{a b:List UInt8}{r:List (List UInt8)}{vl:List UInt8}{td:Bool}(h:∀n,¬Pl a b n):Nn st (a::b::r) vl td=none:=by
 have h2:∀c,Me (a::b::c)=none:=by
  intro c;match c with
  |[]=>
   cases hd:Cx a with
   |none=>simp only[Me,hd]
   |some n=>simp only[Me,hd];exact if_neg fun(e:1<=n/\n<=200/\Be b=true)=>h n ⟨hd,e.1,e.2.1,e.2.2⟩
  |_::_=>rfl
 have h3:∀c,M6 (a::b::c)=none:=by
  intro c;match c with
  |[]=>rfl
  |[x]=>
   cases hd:Cx a with
   |none=>simp only[M6,hd]
   |some n=>simp only[M6,hd];exact if_neg fun(e:1<=n/\n<=200/\Be b=true)=>h n ⟨hd,e.1,e.2.1,e.2.2⟩
  |_::_::_=>rfl
 unfold Nn;rw[h2,h3];split<;>rfl
theorem Qkq{a b:List UInt8}{vl:List UInt8}{td:Bool}{n:Nat}(h:Pl a b n):Nn 69 [a,b] vl td=if td=true then none else some ⟨n,b,Kd.nil,vl⟩:=by
 obtain⟨h1,h2,h3,h4⟩:=h;unfold Nn Me;simp[h1,h2,h3,h4]
theorem Qjw{st:UInt8}{a b c:List UInt8}{vl:List UInt8}{td:Bool}{n:Nat}(hst:st≠69)(h:Pl a b n):Nn st [a,b,c] vl td=(match Cs c with
   |some k=>if td=true/\¬(st=82/\k.signs=[]/\Cg k.base vl=true)then none else some ⟨n,b,k,vl⟩
   |none=>none):=by
 obtain⟨h1,h2,h3,h4⟩:=h;unfold Nn M6;simp[h1,h2,h3,h4,hst]
theorem Qfg{k:Kd}(h:Qct k):Qmk k.base:=by
 rcases h with⟨h,_⟩|⟨h|h|h,_⟩
 ·exact .inr (.inr (.inr h))
 ·exact .inl h
 ·exact .inr (.inl h)
 exact .inr (.inr (.inl h))
theorem Qmx{ps:List (List UInt8)}(h:ps.length=2):∃a b,ps=[a,b]:=by
 match ps,h with
 |[a,b],_=>exact⟨a,b,rfl⟩
theorem Qm7{ps:List (List UInt8)}(h:ps.length=3):∃a b c,ps=[a,b,c]:=by
 match ps,h with
 |[a,b,c],_=>exact⟨a,b,c,rfl⟩
theorem Xe{w:World}{b o n:Nat}(h:w.there b o n)(k:Nat):(w.drewN k).there b o n:=by
 induction k generalizing w with
 |zero=>exact h
 |succ k ih=>exact ih aR
theorem Qj6(st:UInt8)(hst:st=69)(s:List UInt8)(w:World)(hs:s.length<=4000000):
  Calls prog 175 #[s,.int .u8 (st.toNat:Int)] w (Ei (Jl st s) w):=by
 have HF:=Aa (Qa4 st s);have Hcut:=Aa (fun W=>Tp s 61 W aH);have hcl:=(Mo 61 s).1;have hvl:=(Mo 61 s).2;generalize Dl 61 s=r at HF Hcut hcl hvl;obtain⟨hd,vl,td⟩:=r;simp only at hcl hvl HF;have Hsp:=Aa (fun W=>Vu hd 58 W aH);have hne:=Ew 58 hd;have Hpl:=Aa (Aq 58 hd);generalize Al 58 hd=ps at HF Hsp hne Hpl;have e69:((st.toNat:Int) == 69)=true:=Bj hst;have n69:((st.toNat:Int) != 69)=false:=Na hst;have Hst0:=Aa hst;clear hst;go_enter func175,ntmps175;go_wp2_with fail;refine(Hcut.o _).mono ?_;rintro e w1 ⟨rfl,k1,rfl⟩;unfold Qdm;go_wp2_with fail;refine(Hsp.o _).mono ?_;rintro e w2 ⟨v,rfl,ho,hb⟩;obtain⟨g,c,rfl,hg1,hg2,hcells⟩:=N0 ho hne;have hzz:w.heap.size<w2.heap.size:=by have:=hb.size;simp at this;omega
 have HT:=@Aa (w2.there w 0 6) (Aj (Xe (Bz w [.int .i64 0,a6,a6,a6,a6,a6] 97) k1) aK hb);have Hb:=@Aa (Below w w w2) ((below_drewN ((Ao w.heap.size w).alloc (An _) _) k1).trans (hb.mono aK));have Hcells:=Aa hcells;clear hb ho hcells hne;by_cases hlen:ps.length=2
 ·obtain⟨a,b,rfl⟩:=Qmx hlen;have c0:=Hcells.o 0 aK;have c1:=Hcells.o 1 aK;simp at c0 c1;have la:a.length<=4000000:=by have:=Hpl.o a aK;omega
  have lb:b.length<=4000000:=by have:=Hpl.o b aK;omega
  clear Hpl Hcells hlen;have hpn:=fun W=>(show Calls prog 186 #[a,.int .i64 200] W fun e w'=>e=.returned (pnV a 200)/\W=w' from Jg a 200 W aH aJ)
  have Hhead:=@Aa (∀n,Pl a b n↔Cx a=some n/\1<=n/\n<=200/\Be b=true) (fun n=>Iff.rfl);have Hno:=Aa (fun(h:∀n,¬Pl a b n)=>HF.o.trans (Xk h));generalize hda:Cx a=od at *;have Hda:=Aa hda;clear hda;cases od with
  |none=>
   have Hpn:=Aa (fun W=>(Si (m:=200) Hda.o) ▸ hpn W);clear hpn;go_wp2_with fail;refine(Hpn.o _).mono ?_;rintro e w3 ⟨rfl,rfl⟩;go_wp2_with ((with_reducible refine Af (op:=⟨none,.store 97 _ _,_,_,_,none⟩) rfl 97 _ _ rfl w 0 [.int .i64 0,a6,a6,a6,a6,a6] ?_ ?_ ?_ ?_ ?_ ?_);rfl;rfl;(first|exact ar HT.o _|exact HT.o);kernel_rfl;(simp[Value.oneCell']);intro w9 HS9)
   have HZ:=@Aa (w9.rangeAt w 0 [.int .i64 0,a6,a6,a6,a6,a6]) bu;refine aF (v:=.tuple #[.agg ([.int .i64 0,a6,a6,a6,a6,a6]:List Value).toArray,.bool false]) ?_ rfl ?_
   ·exact ig
   exact ky
  |some n=>
   have Hpn:=Aa (fun W=>(Yc (m:=200) Hda.o) ▸ hpn W);clear hpn;have hn9:n<=999999:=(Cl.1 Hda.o).1;rcases aG 200 n with h200|h200
   ·exact io
   have Hdec:=Aa (show decide (n<=200)=true by simp;omega);rw[Hdec.o]at Hpn;rcases Nat.eq_zero_or_pos n with h0|h0
   ·exact ip
   have hlt1:decide ((n:Int)<1)=false:=eI;have Hname:=Aa (fun W=>Mn b W aH);generalize hnb:Be b=nb at *;have Hnb:=Aa hnb;clear hnb;go_wp2_with fail;refine(Hpn.o _).mono ?_;rintro e w3 ⟨rfl,rfl⟩;go_wp2_with fail;refine(Hname.o _).mono ?_;rintro e w4 ⟨rfl,hb4⟩;have hz4:w2.heap.size<w4.heap.size:=eH;have HT4:=@Aa (w4.there w 0 6) (Aj (ar HT.o _) aM hb4);have HR4:=@Aa (w4.rangeAt w2 0 [(n:Int),b,a6,a6,a6,vl]) (Ah (Bo w2 _ _) aK hb4);have HK4:=@Aa (w4.there w2 0 6) (Aj (Bz w2 [(n:Int),b,a6,a6,a6,vl] _) aK hb4);have Hb4:=@Aa (Below w w w4) ((Hb.o.alloc Hb.o.size _).trans (hb4.mono aM));clear hb4;cases nb with
   |false=>
    go_wp2_with ((with_reducible refine Af (op:=⟨none,.store 97 _ _,_,_,_,none⟩) rfl 97 _ _ rfl w 0 [.int .i64 0,a6,a6,a6,a6,a6] ?_ ?_ ?_ ?_ ?_ ?_);rfl;rfl;(first|exact ar HT4.o _|exact HT4.o);kernel_rfl;(simp[Value.oneCell']);intro w9 HS9)
    have HZ:=@Aa (w9.rangeAt w 0 [.int .i64 0,a6,a6,a6,a6,a6]) cj;refine aF (v:=.tuple #[.agg ([.int .i64 0,a6,a6,a6,a6,a6]:List Value).toArray,.bool false]) ?_ rfl ?_
    ·exact ig
    exact kz
   |true=>
    have Hok:=@Aa (Pl a b n) ((Hhead.o n).2 ⟨rfl,h0,h200,rfl⟩);have HF2:=Aa (HF.o.trans (show Nn st [a,b] vl td=if td=true then none else some ⟨n,b,Kd.nil,vl⟩from by rw[Hst0.o];exact Qkq Hok.o));clear Hno Hhead HF;have n82:((st.toNat:Int) != 82)=true:=Qc (c:=st) (d:=82) (by rw[Hst0.o];decide);cases td with
    |true=>
     go_wp2_with ((with_reducible refine Af (op:=⟨none,.store 97 _ _,_,_,_,none⟩) rfl 97 _ _ rfl w 0 [.int .i64 0,a6,a6,a6,a6,a6] ?_ ?_ ?_ ?_ ?_ ?_);rfl;rfl;(first|exact ar HT4.o _|exact HT4.o);kernel_rfl;(simp[Value.oneCell']);intro w9 HS9)
     have HZ:=@Aa (w9.rangeAt w 0 [.int .i64 0,a6,a6,a6,a6,a6]) cj;refine aF (v:=.tuple #[.agg ([.int .i64 0,a6,a6,a6,a6,a6]:List Value).toArray,.bool false]) ?_ rfl ?_
     ·exact ig
     exact Ei.no (HF2.o.trans aK) rfl bG
    |false=>
     go_wp2_with (first|((with_reducible refine Af (op:=⟨none,.store 97 _ _,_,_,_,none⟩) rfl 97 _ _ rfl w 0 [(n:Int),b,a6,a6,a6,vl] ?_ ?_ ?_ ?_ ?_ ?_);rfl;rfl;(first|exact ar HT4.o _|exact HT4.o);kernel_rfl;(simp[Value.oneCell']);intro w9 HS9)|((with_reducible refine wpList_load_mid (op:=⟨_,.load 97 _,_,_,_,none⟩) rfl 97 _ rfl w2 0 ?_ [(n:Int),b,a6,a6,a6,vl] _ HR4.o underlying97 ?_ ?_ ?_);rfl;rfl;kernel_rfl))
     have HZ:=@Aa (w9.rangeAt w 0 [(n:Int),b,a6,a6,a6,vl]) cj;refine aF (v:=.tuple #[.agg ([(n:Int),b,a6,a6,a6,vl]:List Value).toArray,.bool true]) ?_ rfl ?_
     ·exact As results175 _ _ w.heap.size [(n:Int),b,a6,a6,a6,vl] _ _ rfl rfl HZ.o underlying97 rfl aN
     exact Ei.yes (HF2.o.trans (if_neg (fun h=>by cases h))) rfl bG
 have Hno:=Aa (HF.o.trans (Qab (vl:=vl) (td:=td) (st:=st) (ps:=ps) (by rw[if_pos Hst0.o];exact hlen)));have hl1:¬(ps.length:Int)=2:=aH;have hl2:((ps.length:Int) != 2)=true:=by rw[bne_iff_ne];exact hl1
 clear HF Hpl Hcells;go_wp2_with ((with_reducible refine Af (op:=⟨none,.store 97 _ _,_,_,_,none⟩) rfl 97 _ _ rfl w 0 [.int .i64 0,a6,a6,a6,a6,a6] ?_ ?_ ?_ ?_ ?_ ?_);rfl;rfl;(first|exact ar HT.o _|exact HT.o);kernel_rfl;(simp[Value.oneCell']);intro w9 HS9)
 have HZ:=@Aa (w9.rangeAt w 0 [.int .i64 0,a6,a6,a6,a6,a6]) bu;refine aF (v:=.tuple #[.agg ([.int .i64 0,a6,a6,a6,a6,a6]:List Value).toArray,.bool false]) ?_ rfl ?_
 ·exact ig
 exact Ei.no Hno.o rfl aX
theorem Qk0(st:UInt8)(hst:st≠69)(s:List UInt8)(w:World)(hs:s.length<=4000000):
  Calls prog 175 #[s,.int .u8 (st.toNat:Int)] w (Ei (Jl st s) w):=by
 have HF:=Aa (Qa4 st s);have Hcut:=Aa (fun W=>Tp s 61 W aH);have hcl:=(Mo 61 s).1;have hvl:=(Mo 61 s).2;generalize Dl 61 s=r at HF Hcut hcl hvl;obtain⟨hd,vl,td⟩:=r;simp only at hcl hvl HF;have Hsp:=Aa (fun W=>Vu hd 58 W aH);have hne:=Ew 58 hd;have Hpl:=Aa (Aq 58 hd);generalize Al 58 hd=ps at HF Hsp hne Hpl;have e69:((st.toNat:Int) == 69)=false:=Ap hst;have n69:((st.toNat:Int) != 69)=true:=Qc hst;have Hst0:=Aa hst;clear hst;go_enter func175,ntmps175;go_wp2_with fail;refine(Hcut.o _).mono ?_;rintro e w1 ⟨rfl,k1,rfl⟩;unfold Qdm;go_wp2_with fail;refine(Hsp.o _).mono ?_;rintro e w2 ⟨v,rfl,ho,hb⟩;obtain⟨g,c,rfl,hg1,hg2,hcells⟩:=N0 ho hne;have hzz:w.heap.size<w2.heap.size:=by have:=hb.size;simp at this;omega
 have HT:=@Aa (w2.there w 0 6) (Aj (Xe (Bz w [.int .i64 0,a6,a6,a6,a6,a6] 97) k1) aK hb);have Hb:=@Aa (Below w w w2) ((below_drewN ((Ao w.heap.size w).alloc (An _) _) k1).trans (hb.mono aK));have Hcells:=Aa hcells;clear hb ho hcells hne;by_cases hlen:ps.length=3
 ·obtain⟨a,b,d,rfl⟩:=Qm7 hlen;have c0:=Hcells.o 0 aK;have c1:=Hcells.o 1 aK;have c2:=Hcells.o 2 aK;simp at c0 c1 c2;have la:a.length<=4000000:=by have:=Hpl.o a aK;omega
  have lb:b.length<=4000000:=by have:=Hpl.o b aK;omega
  have ld:d.length<=4000000:=by have:=Hpl.o d aK;omega
  clear Hpl Hcells hlen;have hpn:=fun W=>(show Calls prog 186 #[a,.int .i64 200] W fun e w'=>e=.returned (pnV a 200)/\W=w' from Jg a 200 W aH aJ)
  have Hhead:=@Aa (∀n,Pl a b n↔Cx a=some n/\1<=n/\n<=200/\Be b=true) (fun n=>Iff.rfl);have Hno:=Aa (fun(h:∀n,¬Pl a b n)=>HF.o.trans (Xk h));generalize hda:Cx a=od at *;have Hda:=Aa hda;clear hda;cases od with
  |none=>
   have Hpn:=Aa (fun W=>(Si (m:=200) Hda.o) ▸ hpn W);clear hpn;go_wp2_with fail;refine(Hpn.o _).mono ?_;rintro e w3 ⟨rfl,rfl⟩;go_wp2_with ((with_reducible refine Af (op:=⟨none,.store 97 _ _,_,_,_,none⟩) rfl 97 _ _ rfl w 0 [.int .i64 0,a6,a6,a6,a6,a6] ?_ ?_ ?_ ?_ ?_ ?_);rfl;rfl;(first|exact ar HT.o _|exact HT.o);kernel_rfl;(simp[Value.oneCell']);intro w9 HS9)
   have HZ:=@Aa (w9.rangeAt w 0 [.int .i64 0,a6,a6,a6,a6,a6]) bu;refine aF (v:=.tuple #[.agg ([.int .i64 0,a6,a6,a6,a6,a6]:List Value).toArray,.bool false]) ?_ rfl ?_
   ·exact ig
   exact ky
  |some n=>
   have Hpn:=Aa (fun W=>(Yc (m:=200) Hda.o) ▸ hpn W);clear hpn;have hn9:n<=999999:=(Cl.1 Hda.o).1;rcases aG 200 n with h200|h200
   ·exact io
   have Hdec:=Aa (show decide (n<=200)=true by simp;omega);rw[Hdec.o]at Hpn;rcases Nat.eq_zero_or_pos n with h0|h0
   ·exact ip
   have hlt1:decide ((n:Int)<1)=false:=eI;have Hname:=Aa (fun W=>Mn b W aH);generalize hnb:Be b=nb at *;have Hnb:=Aa hnb;clear hnb;go_wp2_with fail;refine(Hpn.o _).mono ?_;rintro e w3 ⟨rfl,rfl⟩;go_wp2_with fail;refine(Hname.o _).mono ?_;rintro e w4 ⟨rfl,hb4⟩;have hz4:w2.heap.size<w4.heap.size:=eH;have HT4:=@Aa (w4.there w 0 6) (Aj (ar HT.o _) aM hb4);have HR4:=@Aa (w4.rangeAt w2 0 [(n:Int),b,a6,a6,a6,vl]) (Ah (Bo w2 _ _) aK hb4);have HK4:=@Aa (w4.there w2 0 6) (Aj (Bz w2 [(n:Int),b,a6,a6,a6,vl] _) aK hb4);have Hb4:=@Aa (Below w w w4) ((Hb.o.alloc Hb.o.size _).trans (hb4.mono aM));have c2x:w4.cell? (g,2)=d:=(hb4.cell (p:=⟨g,2,none⟩) aM).trans (by rw[World.cell?_alloc_old _ _ _ aM];exact c2);clear hb4;cases nb with
   |false=>
    go_wp2_with ((with_reducible refine Af (op:=⟨none,.store 97 _ _,_,_,_,none⟩) rfl 97 _ _ rfl w 0 [.int .i64 0,a6,a6,a6,a6,a6] ?_ ?_ ?_ ?_ ?_ ?_);rfl;rfl;(first|exact ar HT4.o _|exact HT4.o);kernel_rfl;(simp[Value.oneCell']);intro w9 HS9)
    have HZ:=@Aa (w9.rangeAt w 0 [.int .i64 0,a6,a6,a6,a6,a6]) cj;refine aF (v:=.tuple #[.agg ([.int .i64 0,a6,a6,a6,a6,a6]:List Value).toArray,.bool false]) ?_ rfl ?_
    ·exact ig
    exact kz
   |true=>
    have Hok:=@Aa (Pl a b n) ((Hhead.o n).2 ⟨rfl,h0,h200,rfl⟩);have HF2:=Aa (HF.o.trans (Qjw (c:=d) (vl:=vl) (td:=td) Hst0.o Hok.o));clear Hno Hhead HF;have Hkd:=Aa (fun W=>Ps d W ld);have Hkok:=Aa (fun k (h:Cs d=some k)=>(Eg.1 h).1);generalize Cs d=ok at HF2 Hkd Hkok;go_wp2_with fail;refine(Hkd.o _).mono ?_;rintro e w5 ⟨hcase,hb5⟩;have HT5:=@Aa (w5.there w 0 6) (Aj HT4.o aH hb5);have HR5:=@Aa (w5.rangeAt w2 0 _) (Ah HR4.o hz4 hb5);have HK5:=@Aa (w5.there w2 0 6) (Aj HK4.o hz4 hb5);have Hb5:=Aa (Hb4.o.trans (hb5.mono Hb4.o.size));have hz5:w2.heap.size<w5.heap.size:=ac hz4 hb5.size;clear hb5;cases ok with
    |none=>
     obtain⟨a1,a2,a3,rfl⟩:=hcase;go_wp2_with (first|((with_reducible refine Af (op:=⟨none,.store 60 _ _,_,_,_,none⟩) rfl 60 _ _ rfl w2 2 [.string a1,.string a2,.string a3] ?_ ?_ ?_ ?_ ?_ ?_);rfl;rfl;(exact Mg HK5.o 2 3 aJ aJ);kernel_rfl;(simp[Value.oneCell']);intro w6 HS6;have HT6:=@Aa (w6.there w 0 6) (HS6.o ▸ ai HT5.o _ _ _);have HR6:=@Aa (w6.rangeAt w2 0 [(n:Int),b,.string a1,.string a2,.string a3,vl]) (HS6.o ▸ Cm [(n:Int),b] [a6,a6,a6] [vl] [.string a1,.string a2,.string a3] HR5.o rfl);have Hb6:=@Aa (Below w w w6) (HS6.o ▸ Ai _ (Nat.le_of_lt hzz) _ _ _ Hb5.o);have hz6:w2.heap.size<w6.heap.size:=dy;have z2:w6.cell? (w2,2)=some (.string a1):=db;have z3:w6.cell? (w2,3)=some (.string a2):=dc;clear HT5 HR5 HK5 HS6)|((with_reducible refine Af (op:=⟨none,.store 97 _ _,_,_,_,none⟩) rfl 97 _ _ rfl w 0 [.int .i64 0,a6,a6,a6,a6,a6] ?_ ?_ ?_ ?_ ?_ ?_);rfl;rfl;(first|exact ar HT6.o _|exact HT6.o);kernel_rfl;(simp[Value.oneCell']);intro w9 HS9))
     have HZ:=@Aa (w9.rangeAt w 0 [.int .i64 0,a6,a6,a6,a6,a6]) ck;refine aF (v:=.tuple #[.agg ([.int .i64 0,a6,a6,a6,a6,a6]:List Value).toArray,.bool false]) ?_ rfl ?_
     ·exact ig
     exact Ei.no HF2.o rfl bH
    |some k=>
     have hcase':e=.returned (.tuple #[.agg #[k.signs,k.base,k.name],.bool true]):=hcase;subst hcase';clear hcase;have Hkk:=Aa (Hkok.o k rfl);have HF3:=@Aa (Jl st s=if td=true/\¬(st=82/\k.signs=[]/\Cg k.base vl=true)then none else some ⟨n,b,k,vl⟩) HF2.o;clear HF2 Hkok;cases td with
     |false=>
      go_wp2_with (first|((with_reducible refine Af (op:=⟨none,.store 60 _ _,_,_,_,none⟩) rfl 60 _ _ rfl w2 2 [k.signs,k.base,k.name] ?_ ?_ ?_ ?_ ?_ ?_);rfl;rfl;(exact Mg HK5.o 2 3 aJ aJ);kernel_rfl;(simp[Value.oneCell']);intro w6 HS6;have HT6:=@Aa (w6.there w 0 6) (HS6.o ▸ ai HT5.o _ _ _);have HR6:=@Aa (w6.rangeAt w2 0 [(n:Int),b,k.signs,k.base,k.name,vl]) (HS6.o ▸ Cm [(n:Int),b] [a6,a6,a6] [vl] [k.signs,k.base,k.name] HR5.o rfl);have Hb6:=@Aa (Below w w w6) (HS6.o ▸ Ai _ (Nat.le_of_lt hzz) _ _ _ Hb5.o);have hz6:w2.heap.size<w6.heap.size:=dy;have z2:w6.cell? (w2,2)=k.signs:=db;have z3:w6.cell? (w2,3)=k.base:=dc;clear HT5 HR5 HK5 HS6)|((with_reducible refine Af (op:=⟨none,.store 97 _ _,_,_,_,none⟩) rfl 97 _ _ rfl w 0 [(n:Int),b,k.signs,k.base,k.name,vl] ?_ ?_ ?_ ?_ ?_ ?_);rfl;rfl;(first|exact ar HT6.o _|exact HT6.o);kernel_rfl;(simp[Value.oneCell']);intro w9 HS9)|((with_reducible refine wpList_load_mid (op:=⟨_,.load 97 _,_,_,_,none⟩) rfl 97 _ rfl w2 0 ?_ [(n:Int),b,k.signs,k.base,k.name,vl] _ HR6.o underlying97 ?_ ?_ ?_);rfl;rfl;kernel_rfl))
      have HZ:=@Aa (w9.rangeAt w 0 [(n:Int),b,k.signs,k.base,k.name,vl]) ck;refine aF (v:=.tuple #[.agg ([(n:Int),b,k.signs,k.base,k.name,vl]:List Value).toArray,.bool true]) ?_ rfl ?_
      ·exact jk
      exact Ei.yes (HF3.o.trans (if_neg aK)) rfl bH
     |true=>
      rcases Decidable.em (st=82)with h82|h82
      ·have n82:((st.toNat:Int) != 82)=false:=Na (c:=st) (d:=82) h82;rcases Decidable.em (k.signs=[])with hsg|hsg
       ·have hsg1:(k.signs != [])=false:=cO;have hsg2:k.signs.isEmpty=true:=cO;have hsg3:(!k.signs.isEmpty)=false:=cO;have hbl:=Qfg Hkk.o.2.1;have Hst:=Aa (fun W=>Qbn k.base vl W hbl aH)
        have Hst2:=Aa (show Jl st s=if Cg k.base vl=true then some ⟨n,b,k,vl⟩else none from by
         rw[HF3.o];by_cases hh:Cg k.base vl=true
         ·rw[if_neg (by simp[h82,hsg,hh]),if_pos hh]
         rw[if_pos (by simp[hh]),if_neg hh])
        generalize Cg k.base vl=sb at Hst Hst2;clear hsg h82 hbl;go_wp2_with ((with_reducible refine Af (op:=⟨none,.store 60 _ _,_,_,_,none⟩) rfl 60 _ _ rfl w2 2 [k.signs,k.base,k.name] ?_ ?_ ?_ ?_ ?_ ?_);rfl;rfl;(exact Mg HK5.o 2 3 aJ aJ);kernel_rfl;(simp[Value.oneCell']);intro w6 HS6;have HT6:=@Aa (w6.there w 0 6) (HS6.o ▸ ai HT5.o _ _ _);have HR6:=@Aa (w6.rangeAt w2 0 [(n:Int),b,k.signs,k.base,k.name,vl]) (HS6.o ▸ Cm [(n:Int),b] [a6,a6,a6] [vl] [k.signs,k.base,k.name] HR5.o rfl);have Hb6:=@Aa (Below w w w6) (HS6.o ▸ Ai _ (Nat.le_of_lt hzz) _ _ _ Hb5.o);have hz6:w2.heap.size<w6.heap.size:=dy;have z2:w6.cell? (w2,2)=k.signs:=db;have z3:w6.cell? (w2,3)=k.base:=dc;clear HT5 HR5 HK5 HS6)
        refine(Hst.o _).mono ?_;rintro e w7 ⟨rfl,hb7⟩;have HT7:=@Aa (w7.there w 0 6) (Aj HT6.o aH hb7);have HR7:=@Aa (w7.rangeAt w2 0 _) (Ah HR6.o hz6 hb7);have Hb7:=Aa (Hb6.o.trans (hb7.mono Hb6.o.size));clear hb7 z2 z3;cases sb with
        |true=>
         go_wp2_with (first|((with_reducible refine Af (op:=⟨none,.store 97 _ _,_,_,_,none⟩) rfl 97 _ _ rfl w 0 [(n:Int),b,k.signs,k.base,k.name,vl] ?_ ?_ ?_ ?_ ?_ ?_);rfl;rfl;(first|exact ar HT7.o _|exact HT7.o);kernel_rfl;(simp[Value.oneCell']);intro w9 HS9)|((with_reducible refine wpList_load_mid (op:=⟨_,.load 97 _,_,_,_,none⟩) rfl 97 _ rfl w2 0 ?_ [(n:Int),b,k.signs,k.base,k.name,vl] _ HR7.o underlying97 ?_ ?_ ?_);rfl;rfl;kernel_rfl))
         have HZ:=@Aa (w9.rangeAt w 0 [(n:Int),b,k.signs,k.base,k.name,vl]) eM;refine aF (v:=.tuple #[.agg ([(n:Int),b,k.signs,k.base,k.name,vl]:List Value).toArray,.bool true]) ?_ rfl ?_
         ·exact jk
         exact Ei.yes (Hst2.o.trans (if_pos aK)) rfl dq
        |false=>
         go_wp2_with ((with_reducible refine Af (op:=⟨none,.store 97 _ _,_,_,_,none⟩) rfl 97 _ _ rfl w 0 [.int .i64 0,a6,a6,a6,a6,a6] ?_ ?_ ?_ ?_ ?_ ?_);rfl;rfl;(first|exact ar HT7.o _|exact HT7.o);kernel_rfl;(simp[Value.oneCell']);intro w9 HS9)
         have HZ:=@Aa (w9.rangeAt w 0 [.int .i64 0,a6,a6,a6,a6,a6]) eM;refine aF (v:=.tuple #[.agg ([.int .i64 0,a6,a6,a6,a6,a6]:List Value).toArray,.bool false]) ?_ rfl ?_
         ·exact ig
         exact Ei.no (Hst2.o.trans (if_neg aJ)) rfl dq
       have hsg1:(k.signs != [])=true:=cO;have hsg2:k.signs.isEmpty=false:=cO;have hsg3:(!k.signs.isEmpty)=true:=cO;have Hw:=Aa (HF3.o.trans (if_pos ⟨rfl,fun h=>hsg h.2.1⟩));clear hsg h82;go_wp2_with (first|((with_reducible refine Af (op:=⟨none,.store 60 _ _,_,_,_,none⟩) rfl 60 _ _ rfl w2 2 [k.signs,k.base,k.name] ?_ ?_ ?_ ?_ ?_ ?_);rfl;rfl;(exact Mg HK5.o 2 3 aJ aJ);kernel_rfl;(simp[Value.oneCell']);intro w6 HS6;have HT6:=@Aa (w6.there w 0 6) (HS6.o ▸ ai HT5.o _ _ _);have HR6:=@Aa (w6.rangeAt w2 0 [(n:Int),b,k.signs,k.base,k.name,vl]) (HS6.o ▸ Cm [(n:Int),b] [a6,a6,a6] [vl] [k.signs,k.base,k.name] HR5.o rfl);have Hb6:=@Aa (Below w w w6) (HS6.o ▸ Ai _ (Nat.le_of_lt hzz) _ _ _ Hb5.o);have hz6:w2.heap.size<w6.heap.size:=dy;have z2:w6.cell? (w2,2)=k.signs:=db;have z3:w6.cell? (w2,3)=k.base:=dc;clear HT5 HR5 HK5 HS6)|((with_reducible refine Af (op:=⟨none,.store 97 _ _,_,_,_,none⟩) rfl 97 _ _ rfl w 0 [.int .i64 0,a6,a6,a6,a6,a6] ?_ ?_ ?_ ?_ ?_ ?_);rfl;rfl;(first|exact ar HT6.o _|exact HT6.o);kernel_rfl;(simp[Value.oneCell']);intro w9 HS9))
       have HZ:=@Aa (w9.rangeAt w 0 [.int .i64 0,a6,a6,a6,a6,a6]) ck;refine aF (v:=.tuple #[.agg ([.int .i64 0,a6,a6,a6,a6,a6]:List Value).toArray,.bool false]) ?_ rfl ?_
       ·exact ig
       exact Ei.no Hw.o rfl bH
      have n82:((st.toNat:Int) != 82)=true:=Qc (c:=st) (d:=82) h82;have Hw:=Aa (HF3.o.trans (if_pos ⟨rfl,fun h=>h82 h.1⟩));clear h82;go_wp2_with (first|((with_reducible refine Af (op:=⟨none,.store 60 _ _,_,_,_,none⟩) rfl 60 _ _ rfl w2 2 [k.signs,k.base,k.name] ?_ ?_ ?_ ?_ ?_ ?_);rfl;rfl;(exact Mg HK5.o 2 3 aJ aJ);kernel_rfl;(simp[Value.oneCell']);intro w6 HS6;have HT6:=@Aa (w6.there w 0 6) (HS6.o ▸ ai HT5.o _ _ _);have HR6:=@Aa (w6.rangeAt w2 0 [(n:Int),b,k.signs,k.base,k.name,vl]) (HS6.o ▸ Cm [(n:Int),b] [a6,a6,a6] [vl] [k.signs,k.base,k.name] HR5.o rfl);have Hb6:=@Aa (Below w w w6) (HS6.o ▸ Ai _ (Nat.le_of_lt hzz) _ _ _ Hb5.o);have hz6:w2.heap.size<w6.heap.size:=dy;have z2:w6.cell? (w2,2)=k.signs:=db;have z3:w6.cell? (w2,3)=k.base:=dc;clear HT5 HR5 HK5 HS6)|((with_reducible refine Af (op:=⟨none,.store 97 _ _,_,_,_,none⟩) rfl 97 _ _ rfl w 0 [.int .i64 0,a6,a6,a6,a6,a6] ?_ ?_ ?_ ?_ ?_ ?_);rfl;rfl;(first|exact ar HT6.o _|exact HT6.o);kernel_rfl;(simp[Value.oneCell']);intro w9 HS9))
      have HZ:=@Aa (w9.rangeAt w 0 [.int .i64 0,a6,a6,a6,a6,a6]) ck;refine aF (v:=.tuple #[.agg ([.int .i64 0,a6,a6,a6,a6,a6]:List Value).toArray,.bool false]) ?_ rfl ?_
      ·exact ig
      exact Ei.no Hw.o rfl bH
 have Hno:=Aa (HF.o.trans (Qab (vl:=vl) (td:=td) (st:=st) (ps:=ps) (by rw[if_neg Hst0.o];exact hlen)));have hl1:¬(ps.length:Int)=3:=aH;have hl2:((ps.length:Int) != 3)=true:=by rw[bne_iff_ne];exact hl1
 clear HF Hpl Hcells;go_wp2_with ((with_reducible refine Af (op:=⟨none,.store 97 _ _,_,_,_,none⟩) rfl 97 _ _ rfl w 0 [.int .i64 0,a6,a6,a6,a6,a6] ?_ ?_ ?_ ?_ ?_ ?_);rfl;rfl;(first|exact ar HT.o _|exact HT.o);kernel_rfl;(simp[Value.oneCell']);intro w9 HS9)
 have HZ:=@Aa (w9.rangeAt w 0 [.int .i64 0,a6,a6,a6,a6,a6]) bu;refine aF (v:=.tuple #[.agg ([.int .i64 0,a6,a6,a6,a6,a6]:List Value).toArray,.bool false]) ?_ rfl ?_
 ·exact ig
 exact Ei.no Hno.o rfl aX
theorem Qap(st:UInt8)(hst:Eh st)(s:List UInt8)(w:World)(hs:s.length<=4000000):
  Calls prog 175 #[s,.int .u8 (st.toNat:Int)] w (Ei (Jl st s) w):=by
 by_cases h:st=69
 ·exact Qj6 st h s w hs
 exact Qk0 st h s w hs
def Ft(o:Option Ty)(w:World)(e:Ending)(w':World):Prop:=
 (match o with
  |some t=>∃x:PT,x.ty=t/\e=.returned (.tuple #[x.ptr,.bool true])/\w.heap.size<=x.blk/\P8 w' x/\∀k,x.fv.ownBlock=some k->w.heap.size<=k
  |none=>∃p:Option Addr,e=.returned (.tuple #[.pointer p,.bool false]))/\Below w w w'
theorem Ft.no{w w':World}{e:Ending}{o:Option Ty}(ho:o=none){p:Option Addr}(he:e=.returned (.tuple #[.pointer p,.bool false]))(hb:Below w w w'):Ft o w e w':=by
 rw[ho];exact⟨⟨p,he⟩,hb⟩
theorem Ft.yes{w w':World}{e:Ending}{o:Option Ty}{t:Ty}(ho:o=some t){b:Nat}{fv:Value}(he:e=.returned (.tuple #[b,.bool true]))(hwb:w.heap.size<=b)(ht:P8 w' ⟨t,b,fv⟩)(hf:∀k,fv.ownBlock=some k->w.heap.size<=k)(hb:Below w w w'):Ft o w e w':=by
 rw[ho];exact⟨⟨⟨t,b,fv⟩,rfl,he,hwb,ht,hf⟩,hb⟩
theorem Zx(c:UInt8):decide (c∈([82,85,69]:List UInt8))=decide (Eh c):=by
 rw[decide_eq_decide];unfold Eh;simp
theorem Qhb(w:World):Calls prog 120 #[a6] w (Ft (Fa []) w):=by
 go_enter func120,ntmps120;go_wp2_with fail;go_ret2;exact Ft.no rfl rfl (Ao _ _)
theorem Qf8(c:UInt8)(r:List UInt8)(w:World)(hs:r.length<=3999999)(hc:¬Eh c):Calls prog 120 #[.string ⟨(c::r).toArray⟩] w (Ft (Fa (c::r)) w):=by
 have HF:=Aa (show Fa (c::r)=none by unfold Fa;simp only;rw[if_pos (.inl hc)])
 have Hc:=Aa (fun W=>(show Calls prog 173 #[.string ⟨#[82,85,69]⟩,.string ⟨#[c]⟩] W fun e w'=>e=.returned (.bool false)/\W=w' from by
  have:=Pp [82,85,69] c W;rw[Zx,aC hc]at this;exact this))
 clear hc;go_enter func120,ntmps120;go_wp2_with fail;refine(Hc.o _).mono ?_;rintro e w' ⟨rfl,rfl⟩;go_wp2_with fail;go_ret2;exact Ft.no HF.o rfl (Ao _ _)
theorem Qf7(c:UInt8)(r:List UInt8)(w:World)(hs:r.length<=3999999)(hc:Eh c)(h:(Dl 61 r).2.2=false\/Be (Dl 61 r).1=false\/(Dl 61 r).2.1=[]):Calls prog 120 #[.string ⟨(c::r).toArray⟩] w (Ft (Fa (c::r)) w):=by
 have HF:=Aa (show Fa (c::r)=if (Dl 61 r).2.2=false\/Be (Dl 61 r).1=false then none else(if c=82 then some ⟨c,(Dl 61 r).1,[]⟩else none)by
  unfold Fa;simp only;by_cases h1:(Dl 61 r).2.2=false\/Be (Dl 61 r).1=false
  ·rw[if_pos (.inr h1),if_pos h1]
  have h2:(Dl 61 r).2.1=[]:=by
   rcases h with h|h|h
   ·exact absurd (.inl h) h1
   ·exact absurd (.inr h) h1
   exact h
  rw[if_neg (fun h3=>h3.elim (fun h3=>h3 hc) h1),if_neg h1,if_pos h2])
 have Hc:=Aa (fun W=>(show Calls prog 173 #[.string ⟨#[82,85,69]⟩,.string ⟨#[c]⟩] W fun e w'=>e=.returned (.bool true)/\W=w' from by
  have:=Pp [82,85,69] c W;rw[Zx,aD hc]at this;exact this))
 have Hl:=Aa (fun(f:(Dl 61 r).2.2=true/\(Dl 61 r).2.1=[])=>show V8 ⟨c,(Dl 61 r).1,[]⟩=c::r from by
  rcases Ga 61 r with⟨_,e⟩|⟨p,t,e1,_,e⟩
  ·rw[e]at f;cases f.1
  rw[e]at f ⊢;simp only at f;have:=f.2;subst this;rw[e1];rfl)
 have Hcut:=Aa (fun W=>Tp r 61 W aH);have hcl:=(Mo 61 r).1;generalize Dl 61 r=q at *;obtain⟨nm,rest,told⟩:=q;simp only at hcl HF h Hl;have Hh:=Aa h;have Hc82:=Aa hc;clear hc h;go_enter func120,ntmps120;go_wp2_with fail;refine(Hc.o _).mono ?_;rintro e w' ⟨rfl,rfl⟩;go_wp2_with fail;refine(Hcut.o _).mono ?_;rintro e w1 ⟨rfl,k1,rfl⟩;unfold Qdm;cases told with
 |false=>
  go_wp2_with fail;go_ret2;exact Ft.no (HF.o.trans (if_pos aK)) rfl (below_drewN (Ao _ _) _)
 |true=>
  have Hname:=Aa (fun W=>Mn nm W aH);generalize hnb:Be nm=nb at *;have Hnb:=Aa hnb;clear hnb;go_wp2_with fail;refine(Hname.o _).mono ?_;rintro e w2 ⟨rfl,hb2⟩;have Hb2:=@Aa (Below w w w2) ((below_drewN (Ao _ _) k1).trans (by simpa using hb2));clear hb2;cases nb with
  |false=>
   go_wp2_with fail;go_ret2;exact Ft.no (HF.o.trans (if_pos aK)) rfl Hb2.o
  |true=>
   obtain rfl:rest=[]:=by
    rcases Hh.o with h|h|h
    ·cases h
    ·cases h
    exact h
   have HF2:=Aa (HF.o.trans (if_neg aK));have Hl2:=Aa (Hl.o aK);have hz:=Hb2.o.size;rcases Decidable.em (c=82)with h82|h82
   ·have t1:((c.toNat:Int) == 82)=true:=Bj (d:=82) h82;have HF3:=Aa (HF2.o.trans (if_pos h82));clear h82;go_wp2_with fail;go_quiet (fail)
    go_wp2_with fail;go_ret2;refine Ft.yes HF3.o (b:=w2.heap.size) (fv:=.slice none 0 0) rfl Hb2.o.size ?_ (fun k hk=>by simp[Value.ownBlock]at hk) dE;refine⟨by simp,by first|exact Qe.new _ _ _|exact Qe.belowAt (Qe.new w2 _ _) aK (by first|exact below_drewN (Ao _ _) _|exact(Ao _ _).drew),by simp,by simp,by simp,?_,none,0,rfl,by simp,rfl,ag _,fun h=>absurd h aK⟩;rw[Hl2.o];simp
   have t1:((c.toNat:Int) == 82)=false:=Ap (d:=82) h82;have HF3:=Aa (HF2.o.trans (if_neg h82));clear h82;go_wp2_with fail;go_quiet (fail)
   go_wp2_with fail;go_ret2;exact Ft.no HF3.o rfl dE
def Qla(c:UInt8)(nm:List UInt8):Option (List Fd)->Option Ty
 |some r=>some ⟨c,nm,r⟩
 |none=>none
theorem Qbv{c:UInt8}{r nm rest:List UInt8}(hc:Eh c)(h:Dl 61 r=(nm,rest,true))(hn:Be nm=true)(hr:rest≠[]):Fa (c::r)=Qla c nm (Fx c (Al 44 rest) []):=by
 unfold Fa;simp only[h];rw[if_neg (by simp[hc,hn]),if_neg hr];cases Fx c (Al 44 rest) []<;>rfl
theorem Qb2{c:UInt8}{ps:List (List UInt8)}{acc:List Fd}{k:Nat}(hk:k<ps.length):Fx c (ps.drop k) acc=(match Jl c ps[k]with|none=>none|some f=>if acc.length=8\/Gt acc f=false then none else Fx c (ps.drop (k+1)) (acc++[f])):=by
 rw[List.drop_eq_getElem_cons hk,Fx];cases Jl c ps[k]<;>rfl
theorem Qe6{acc:List Fd}{f:Fd}(h:∀g∈acc,g.name≠f.name/\g.tag<f.tag):Gt acc f=true:=Mw.2 h
theorem Qc2{acc:List Fd}{f x:Fd}(hx:x∈acc)(h:f.tag<=x.tag\/x.name=f.name):Gt acc f=false:=by
 cases hh:Gt acc f with
 |false=>rfl
 |true=>
  obtain⟨h1,h2⟩:=Mw.1 hh x hx;rcases h with h|h
  ·omega
  exact absurd h h1
theorem Mk(w:World)(a:Addr)(v:Value):w.grownBy (w.setCell a v) (some a.block):=
 ⟨rfl,rfl,rfl,by simp,fun k _ hk=>Go.heap_setCell_other _ _ _ _ (fun e=>hk (by rw[e]))⟩
theorem Ed{w:World}{base k n:Nat}{e:TypeId}{v:Value}{xs:List Value}(h:w.ownsRow base e k v n xs):∃A m c,v=.slice A m c:=by
 rcases h.2 with⟨rfl,_⟩|⟨g,cap,cur,rfl,_⟩
 ·exact⟨_,_,_,rfl⟩
 exact⟨_,_,_,rfl⟩
theorem Tryz.infoIf:(prog.info? 97).map (fun i=>(i.zero,i.size,i.bytes))=some (some (.agg #[.int .i64 0,a6,a6,a6,a6,a6]),6,88):=aN
theorem Qlm(fs:List Fd):∀y∈fs.flatMap Rt,y.oneCell'=true:=by
 intro y hy;obtain⟨f,_,hf⟩:=List.mem_flatMap.1 hy;simp[Rt]at hf;rcases hf with rfl|rfl|rfl|rfl|rfl|rfl<;>rfl
end
end Go.Proofs.YtmmhmlmfhpfgbaaGreatDoor
