/- Texts joined. Conditions: as each theorem names them. -/
import Derived.BigRegion
import Derived.BigQuiet
import Derived.Deep.QuietTactic
import Derived.Test.YtpjijpcemejlnaaGreatDoorR15
import Derived.Test.YtpjijpcemejlnaaGreatDoorR16
set_option maxRecDepth 100000
set_option maxHeartbeats 32000000
set_option linter.unusedVariables false
set_option linter.unusedSimpArgs false
namespace Go.Proofs.YtpjijpcemejlnaaGreatDoor
open Go.RowKit Go.Proofs.Tryz
section
attribute [local go_sem] Qm0 Ql8 Qlz Qj6 ByteArray.mk_append_mk
theorem Mn(c:UInt8)(s:List UInt8):(Dg c s).1.length<=s.length/\(Dg c s).2.1.length<=s.length:=by
 rcases Fv c s with⟨_,h⟩|⟨p,t,rfl,_,h⟩
 ·rw[h];simp
 rw[h];simp;omega
def Nn(st:UInt8)(ps:List (List UInt8))(vl:List UInt8)(td:Bool):Option Fd:=
 if st=69 then
  match Ma ps with
  |some (n,b)=>if td=true then none else some ⟨n,b,Kd.nil,vl⟩
  |none=>none
 else
  match M7 ps with
  |some (n,b,c)=>(match Cx c with
   |some k=>if td=true/\¬(st=82/\k.signs=[]/\Cc k.base vl=true)then none else some ⟨n,b,k,vl⟩
   |none=>none)
  |none=>none
theorem Qan(st:UInt8)(s:List UInt8):Jo st s=Nn st (Ak 58 (Dg 61 s).1) (Dg 61 s).2.1 (Dg 61 s).2.2:=rfl
theorem Yc{st:UInt8}{ps:List (List UInt8)}{vl:List UInt8}{td:Bool}(h:ps.length≠if st=69 then 2 else 3):Nn st ps vl td=none:=by
 unfold Nn;by_cases e:st=69
 ·rw[if_pos e]at h ⊢;match ps,h with
  |[],_=>rfl
  |[_],_=>rfl
  |[_,_],h=>exact absurd rfl h
  |_::_::_::_,_=>rfl
 rw[if_neg e]at h ⊢;match ps,h with
 |[],_=>rfl
 |[_],_=>rfl
 |[_,_],_=>rfl
 |[_,_,_],h=>exact absurd rfl h
 |_::_::_::_::_,_=>rfl
def Pj(a b:List UInt8)(n:Nat):Prop:=Cw a=some n/\1<=n/\n<=200/\Be b=true
theorem V8{st:UInt8}{a b:List UInt8}{r:List (List UInt8)}{vl:List UInt8}{td:Bool}(h:∀n,¬Pj a b n):Nn st (a::b::r) vl td=none:=by
 have h2:∀c,Ma (a::b::c)=none:=by
  intro c;match c with
  |[]=>
   cases hd:Cw a with
   |none=>simp only[Ma,hd]
   |some n=>simp only[Ma,hd];exact if_neg fun(e:1<=n/\n<=200/\Be b=true)=>h n ⟨hd,e.1,e.2.1,e.2.2⟩
  |_::_=>rfl
 have h3:∀c,M7 (a::b::c)=none:=by
  intro c;match c with
  |[]=>rfl
  |[x]=>
   cases hd:Cw a with
   |none=>simp only[M7,hd]
   |some n=>simp only[M7,hd];exact if_neg fun(e:1<=n/\n<=200/\Be b=true)=>h n ⟨hd,e.1,e.2.1,e.2.2⟩
  |_::_::_=>rfl
 unfold Nn;rw[h2,h3];split<;>rfl
theorem Qjp{a b:List UInt8}{vl:List UInt8}{td:Bool}{n:Nat}(h:Pj a b n):Nn 69 [a,b] vl td=if td=true then none else some ⟨n,b,Kd.nil,vl⟩:=by
 obtain⟨h1,h2,h3,h4⟩:=h;unfold Nn Ma;simp[h1,h2,h3,h4]
theorem Qjs{st:UInt8}{a b c:List UInt8}{vl:List UInt8}{td:Bool}{n:Nat}(hst:st≠69)(h:Pj a b n):Nn st [a,b,c] vl td=(match Cx c with
   |some k=>if td=true/\¬(st=82/\k.signs=[]/\Cc k.base vl=true)then none else some ⟨n,b,k,vl⟩
   |none=>none):=by
 obtain⟨h1,h2,h3,h4⟩:=h;unfold Nn M7;simp[h1,h2,h3,h4,hst]
theorem Qeg{k:Kd}(h:Qbb k):Qlf k.base:=by
 rcases h with⟨h,_⟩|⟨h|h|h,_⟩
 ·exact .inr (.inr (.inr h))
 ·exact .inl h
 ·exact .inr (.inl h)
 exact .inr (.inr (.inl h))
theorem Qlw{ps:List (List UInt8)}(h:ps.length=2):∃a b,ps=[a,b]:=by
 match ps,h with
 |[a,b],_=>exact⟨a,b,rfl⟩
theorem Qlt{ps:List (List UInt8)}(h:ps.length=3):∃a b c,ps=[a,b,c]:=by
 match ps,h with
 |[a,b,c],_=>exact⟨a,b,c,rfl⟩
theorem Vv{w:World}{b o n:Nat}(h:w.there b o n)(k:Nat):(w.drewN k).there b o n:=by
 induction k generalizing w with
 |zero=>exact h
 |succ k ih=>exact ih aQ
theorem Qi4(st:UInt8)(hst:st=69)(s:List UInt8)(w:World)(hs:s.length<=4000000):
  Calls prog 166 #[s,.int .u8 (st.toNat:Int)] w (Ec (Jo st s) w):=by
 have HF:=Aa (Qan st s);have Hcut:=Aa (fun W=>S5 s 61 W aI);have hcl:=(Mn 61 s).1;have hvl:=(Mn 61 s).2;generalize Dg 61 s=r at HF Hcut hcl hvl;obtain⟨hd,vl,td⟩:=r;simp only at hcl hvl HF;have Hsp:=Aa (fun W=>Vd hd 58 W aI);have hne:=Ex 58 hd;have Hpl:=Aa (Ar 58 hd);generalize Ak 58 hd=ps at HF Hsp hne Hpl;have e69:((st.toNat:Int) == 69)=true:=Bl hst;have n69:((st.toNat:Int) != 69)=false:=Nb hst;have Hst0:=Aa hst;clear hst;go_enter func166,ntmps166;go_wp2_with fail;refine(Hcut.o _).mono ?_;rintro e w1 ⟨rfl,k1,rfl⟩;unfold Qcp;go_wp2_with fail;refine(Hsp.o _).mono ?_;rintro e w2 ⟨v,rfl,ho,hb⟩;obtain⟨g,c,rfl,hg1,hg2,hcells⟩:=N7 ho hne;have hzz:w.heap.size<w2.heap.size:=by have:=hb.size;simp at this;omega
 have HT:=@Aa (w2.there w 0 6) (An (Vv (B9 w [.int .i64 0,aa,aa,aa,aa,aa] 105) k1) aN hb);have Hb:=@Aa (Below w w w2) ((below_drewN ((Am w.heap.size w).alloc (Ao _) _) k1).trans (hb.mono aN));have Hcells:=Aa hcells;clear hb ho hcells hne;by_cases hlen:ps.length=2
 ·obtain⟨a,b,rfl⟩:=Qlw hlen;have c0:=Hcells.o 0 aN;have c1:=Hcells.o 1 aN;simp at c0 c1;have la:a.length<=4000000:=by have:=Hpl.o a aN;omega
  have lb:b.length<=4000000:=by have:=Hpl.o b aN;omega
  clear Hpl Hcells hlen;have hpn:=fun W=>(show Calls prog 175 #[a,.int .i64 200] W fun e w'=>e=.returned (pnV a 200)/\W=w' from Jl a 200 W aI aL)
  have Hhead:=@Aa (∀n,Pj a b n↔Cw a=some n/\1<=n/\n<=200/\Be b=true) (fun n=>Iff.rfl);have Hno:=Aa (fun(h:∀n,¬Pj a b n)=>HF.o.trans (V8 h));generalize hda:Cw a=od at *;have Hda:=Aa hda;clear hda;cases od with
  |none=>
   have Hpn:=Aa (fun W=>(St (m:=200) Hda.o) ▸ hpn W);clear hpn;go_wp2_with fail;refine(Hpn.o _).mono ?_;rintro e w3 ⟨rfl,rfl⟩;go_wp2_with ((with_reducible refine Af (op:=⟨none,.store 105 _ _,_,_,_,none⟩) rfl 105 _ _ rfl w 0 [.int .i64 0,aa,aa,aa,aa,aa] ?_ ?_ ?_ ?_ ?_ ?_);rfl;rfl;(first|exact au HT.o _|exact HT.o);kernel_rfl;(simp[Value.oneCell']);intro w9 HS9)
   have HZ:=@Aa (w9.rangeAt w 0 [.int .i64 0,aa,aa,aa,aa,aa]) bD;refine aG (v:=.tuple #[.agg ([.int .i64 0,aa,aa,aa,aa,aa]:List Value).toArray,.bool false]) ?_ rfl ?_
   ·exact iC
   exact lE
  |some n=>
   have Hpn:=Aa (fun W=>(Xz (m:=200) Hda.o) ▸ hpn W);clear hpn;have hn9:n<=999999:=(Cj.1 Hda.o).1;rcases aH 200 n with h200|h200
   ·exact iM
   have Hdec:=Aa (show decide (n<=200)=true by simp;omega);rw[Hdec.o]at Hpn;rcases Nat.eq_zero_or_pos n with h0|h0
   ·exact iR
   have hlt1:decide ((n:Int)<1)=false:=eT;have Hname:=Aa (fun W=>Mm b W aI);generalize hnb:Be b=nb at *;have Hnb:=Aa hnb;clear hnb;go_wp2_with fail;refine(Hpn.o _).mono ?_;rintro e w3 ⟨rfl,rfl⟩;go_wp2_with fail;refine(Hname.o _).mono ?_;rintro e w4 ⟨rfl,hb4⟩;have hz4:w2.heap.size<w4.heap.size:=eS;have HT4:=@Aa (w4.there w 0 6) (An (au HT.o _) aO hb4);have HR4:=@Aa (w4.rangeAt w2 0 [(n:Int),b,aa,aa,aa,vl]) (Ah (Br w2 _ _) aN hb4);have HK4:=@Aa (w4.there w2 0 6) (An (B9 w2 [(n:Int),b,aa,aa,aa,vl] _) aN hb4);have Hb4:=@Aa (Below w w w4) ((Hb.o.alloc Hb.o.size _).trans (hb4.mono aO));clear hb4;cases nb with
   |false=>
    go_wp2_with ((with_reducible refine Af (op:=⟨none,.store 105 _ _,_,_,_,none⟩) rfl 105 _ _ rfl w 0 [.int .i64 0,aa,aa,aa,aa,aa] ?_ ?_ ?_ ?_ ?_ ?_);rfl;rfl;(first|exact au HT4.o _|exact HT4.o);kernel_rfl;(simp[Value.oneCell']);intro w9 HS9)
    have HZ:=@Aa (w9.rangeAt w 0 [.int .i64 0,aa,aa,aa,aa,aa]) ct;refine aG (v:=.tuple #[.agg ([.int .i64 0,aa,aa,aa,aa,aa]:List Value).toArray,.bool false]) ?_ rfl ?_
    ·exact iC
    exact lG
   |true=>
    have Hok:=@Aa (Pj a b n) ((Hhead.o n).2 ⟨rfl,h0,h200,rfl⟩);have HF2:=Aa (HF.o.trans (show Nn st [a,b] vl td=if td=true then none else some ⟨n,b,Kd.nil,vl⟩from by rw[Hst0.o];exact Qjp Hok.o));clear Hno Hhead HF;have n82:((st.toNat:Int) != 82)=true:=Qq (c:=st) (d:=82) (by rw[Hst0.o];decide);cases td with
    |true=>
     go_wp2_with ((with_reducible refine Af (op:=⟨none,.store 105 _ _,_,_,_,none⟩) rfl 105 _ _ rfl w 0 [.int .i64 0,aa,aa,aa,aa,aa] ?_ ?_ ?_ ?_ ?_ ?_);rfl;rfl;(first|exact au HT4.o _|exact HT4.o);kernel_rfl;(simp[Value.oneCell']);intro w9 HS9)
     have HZ:=@Aa (w9.rangeAt w 0 [.int .i64 0,aa,aa,aa,aa,aa]) ct;refine aG (v:=.tuple #[.agg ([.int .i64 0,aa,aa,aa,aa,aa]:List Value).toArray,.bool false]) ?_ rfl ?_
     ·exact iC
     exact Ec.no (HF2.o.trans aN) rfl bM
    |false=>
     go_wp2_with (first|((with_reducible refine Af (op:=⟨none,.store 105 _ _,_,_,_,none⟩) rfl 105 _ _ rfl w 0 [(n:Int),b,aa,aa,aa,vl] ?_ ?_ ?_ ?_ ?_ ?_);rfl;rfl;(first|exact au HT4.o _|exact HT4.o);kernel_rfl;(simp[Value.oneCell']);intro w9 HS9)|((with_reducible refine wpList_load_mid (op:=⟨_,.load 105 _,_,_,_,none⟩) rfl 105 _ rfl w2 0 ?_ [(n:Int),b,aa,aa,aa,vl] _ HR4.o underlying105 ?_ ?_ ?_);rfl;rfl;kernel_rfl))
     have HZ:=@Aa (w9.rangeAt w 0 [(n:Int),b,aa,aa,aa,vl]) ct;refine aG (v:=.tuple #[.agg ([(n:Int),b,aa,aa,aa,vl]:List Value).toArray,.bool true]) ?_ rfl ?_
     ·exact As results166 _ _ w.heap.size [(n:Int),b,aa,aa,aa,vl] _ _ rfl rfl HZ.o underlying105 rfl aP
     exact Ec.yes (HF2.o.trans (if_neg (fun h=>by cases h))) rfl bM
 have Hno:=Aa (HF.o.trans (Yc (vl:=vl) (td:=td) (st:=st) (ps:=ps) (by rw[if_pos Hst0.o];exact hlen)));have hl1:¬(ps.length:Int)=2:=aI;have hl2:((ps.length:Int) != 2)=true:=by rw[bne_iff_ne];exact hl1
 clear HF Hpl Hcells;go_wp2_with ((with_reducible refine Af (op:=⟨none,.store 105 _ _,_,_,_,none⟩) rfl 105 _ _ rfl w 0 [.int .i64 0,aa,aa,aa,aa,aa] ?_ ?_ ?_ ?_ ?_ ?_);rfl;rfl;(first|exact au HT.o _|exact HT.o);kernel_rfl;(simp[Value.oneCell']);intro w9 HS9)
 have HZ:=@Aa (w9.rangeAt w 0 [.int .i64 0,aa,aa,aa,aa,aa]) bD;refine aG (v:=.tuple #[.agg ([.int .i64 0,aa,aa,aa,aa,aa]:List Value).toArray,.bool false]) ?_ rfl ?_
 ·exact iC
 exact Ec.no Hno.o rfl bc
theorem Qi1(st:UInt8)(hst:st≠69)(s:List UInt8)(w:World)(hs:s.length<=4000000):
  Calls prog 166 #[s,.int .u8 (st.toNat:Int)] w (Ec (Jo st s) w):=by
 have HF:=Aa (Qan st s);have Hcut:=Aa (fun W=>S5 s 61 W aI);have hcl:=(Mn 61 s).1;have hvl:=(Mn 61 s).2;generalize Dg 61 s=r at HF Hcut hcl hvl;obtain⟨hd,vl,td⟩:=r;simp only at hcl hvl HF;have Hsp:=Aa (fun W=>Vd hd 58 W aI);have hne:=Ex 58 hd;have Hpl:=Aa (Ar 58 hd);generalize Ak 58 hd=ps at HF Hsp hne Hpl;have e69:((st.toNat:Int) == 69)=false:=Ap hst;have n69:((st.toNat:Int) != 69)=true:=Qq hst;have Hst0:=Aa hst;clear hst;go_enter func166,ntmps166;go_wp2_with fail;refine(Hcut.o _).mono ?_;rintro e w1 ⟨rfl,k1,rfl⟩;unfold Qcp;go_wp2_with fail;refine(Hsp.o _).mono ?_;rintro e w2 ⟨v,rfl,ho,hb⟩;obtain⟨g,c,rfl,hg1,hg2,hcells⟩:=N7 ho hne;have hzz:w.heap.size<w2.heap.size:=by have:=hb.size;simp at this;omega
 have HT:=@Aa (w2.there w 0 6) (An (Vv (B9 w [.int .i64 0,aa,aa,aa,aa,aa] 105) k1) aN hb);have Hb:=@Aa (Below w w w2) ((below_drewN ((Am w.heap.size w).alloc (Ao _) _) k1).trans (hb.mono aN));have Hcells:=Aa hcells;clear hb ho hcells hne;by_cases hlen:ps.length=3
 ·obtain⟨a,b,d,rfl⟩:=Qlt hlen;have c0:=Hcells.o 0 aN;have c1:=Hcells.o 1 aN;have c2:=Hcells.o 2 aN;simp at c0 c1 c2;have la:a.length<=4000000:=by have:=Hpl.o a aN;omega
  have lb:b.length<=4000000:=by have:=Hpl.o b aN;omega
  have ld:d.length<=4000000:=by have:=Hpl.o d aN;omega
  clear Hpl Hcells hlen;have hpn:=fun W=>(show Calls prog 175 #[a,.int .i64 200] W fun e w'=>e=.returned (pnV a 200)/\W=w' from Jl a 200 W aI aL)
  have Hhead:=@Aa (∀n,Pj a b n↔Cw a=some n/\1<=n/\n<=200/\Be b=true) (fun n=>Iff.rfl);have Hno:=Aa (fun(h:∀n,¬Pj a b n)=>HF.o.trans (V8 h));generalize hda:Cw a=od at *;have Hda:=Aa hda;clear hda;cases od with
  |none=>
   have Hpn:=Aa (fun W=>(St (m:=200) Hda.o) ▸ hpn W);clear hpn;go_wp2_with fail;refine(Hpn.o _).mono ?_;rintro e w3 ⟨rfl,rfl⟩;go_wp2_with ((with_reducible refine Af (op:=⟨none,.store 105 _ _,_,_,_,none⟩) rfl 105 _ _ rfl w 0 [.int .i64 0,aa,aa,aa,aa,aa] ?_ ?_ ?_ ?_ ?_ ?_);rfl;rfl;(first|exact au HT.o _|exact HT.o);kernel_rfl;(simp[Value.oneCell']);intro w9 HS9)
   have HZ:=@Aa (w9.rangeAt w 0 [.int .i64 0,aa,aa,aa,aa,aa]) bD;refine aG (v:=.tuple #[.agg ([.int .i64 0,aa,aa,aa,aa,aa]:List Value).toArray,.bool false]) ?_ rfl ?_
   ·exact iC
   exact lE
  |some n=>
   have Hpn:=Aa (fun W=>(Xz (m:=200) Hda.o) ▸ hpn W);clear hpn;have hn9:n<=999999:=(Cj.1 Hda.o).1;rcases aH 200 n with h200|h200
   ·exact iM
   have Hdec:=Aa (show decide (n<=200)=true by simp;omega);rw[Hdec.o]at Hpn;rcases Nat.eq_zero_or_pos n with h0|h0
   ·exact iR
   have hlt1:decide ((n:Int)<1)=false:=eT;have Hname:=Aa (fun W=>Mm b W aI);generalize hnb:Be b=nb at *;have Hnb:=Aa hnb;clear hnb;go_wp2_with fail;refine(Hpn.o _).mono ?_;rintro e w3 ⟨rfl,rfl⟩;go_wp2_with fail;refine(Hname.o _).mono ?_;rintro e w4 ⟨rfl,hb4⟩;have hz4:w2.heap.size<w4.heap.size:=eS;have HT4:=@Aa (w4.there w 0 6) (An (au HT.o _) aO hb4);have HR4:=@Aa (w4.rangeAt w2 0 [(n:Int),b,aa,aa,aa,vl]) (Ah (Br w2 _ _) aN hb4);have HK4:=@Aa (w4.there w2 0 6) (An (B9 w2 [(n:Int),b,aa,aa,aa,vl] _) aN hb4);have Hb4:=@Aa (Below w w w4) ((Hb.o.alloc Hb.o.size _).trans (hb4.mono aO));have c2x:w4.cell? (g,2)=d:=(hb4.cell (p:=⟨g,2,none⟩) aO).trans (by rw[World.cell?_alloc_old _ _ _ aO];exact c2);clear hb4;cases nb with
   |false=>
    go_wp2_with ((with_reducible refine Af (op:=⟨none,.store 105 _ _,_,_,_,none⟩) rfl 105 _ _ rfl w 0 [.int .i64 0,aa,aa,aa,aa,aa] ?_ ?_ ?_ ?_ ?_ ?_);rfl;rfl;(first|exact au HT4.o _|exact HT4.o);kernel_rfl;(simp[Value.oneCell']);intro w9 HS9)
    have HZ:=@Aa (w9.rangeAt w 0 [.int .i64 0,aa,aa,aa,aa,aa]) ct;refine aG (v:=.tuple #[.agg ([.int .i64 0,aa,aa,aa,aa,aa]:List Value).toArray,.bool false]) ?_ rfl ?_
    ·exact iC
    exact lG
   |true=>
    have Hok:=@Aa (Pj a b n) ((Hhead.o n).2 ⟨rfl,h0,h200,rfl⟩);have HF2:=Aa (HF.o.trans (Qjs (c:=d) (vl:=vl) (td:=td) Hst0.o Hok.o));clear Hno Hhead HF;have Hkd:=Aa (fun W=>Tc d W ld);have Hkok:=Aa (fun k (h:Cx d=some k)=>(Fe.1 h).1);generalize Cx d=ok at HF2 Hkd Hkok;go_wp2_with fail;refine(Hkd.o _).mono ?_;rintro e w5 ⟨hcase,hb5⟩;have HT5:=@Aa (w5.there w 0 6) (An HT4.o aI hb5);have HR5:=@Aa (w5.rangeAt w2 0 _) (Ah HR4.o hz4 hb5);have HK5:=@Aa (w5.there w2 0 6) (An HK4.o hz4 hb5);have Hb5:=Aa (Hb4.o.trans (hb5.mono Hb4.o.size));have hz5:w2.heap.size<w5.heap.size:=ad hz4 hb5.size;clear hb5;cases ok with
    |none=>
     obtain⟨a1,a2,a3,rfl⟩:=hcase;go_wp2_with (first|((with_reducible refine Af (op:=⟨none,.store 62 _ _,_,_,_,none⟩) rfl 62 _ _ rfl w2 2 [.string a1,.string a2,.string a3] ?_ ?_ ?_ ?_ ?_ ?_);rfl;rfl;(exact Me HK5.o 2 3 aL aL);kernel_rfl;(simp[Value.oneCell']);intro w6 HS6;have HT6:=@Aa (w6.there w 0 6) (HS6.o ▸ aj HT5.o _ _ _);have HR6:=@Aa (w6.rangeAt w2 0 [(n:Int),b,.string a1,.string a2,.string a3,vl]) (HS6.o ▸ Ck [(n:Int),b] [aa,aa,aa] [vl] [.string a1,.string a2,.string a3] HR5.o rfl);have Hb6:=@Aa (Below w w w6) (HS6.o ▸ Aj _ (Nat.le_of_lt hzz) _ _ _ Hb5.o);have hz6:w2.heap.size<w6.heap.size:=dL;have z2:w6.cell? (w2,2)=some (.string a1):=dm;have z3:w6.cell? (w2,3)=some (.string a2):=dn;clear HT5 HR5 HK5 HS6)|((with_reducible refine Af (op:=⟨none,.store 105 _ _,_,_,_,none⟩) rfl 105 _ _ rfl w 0 [.int .i64 0,aa,aa,aa,aa,aa] ?_ ?_ ?_ ?_ ?_ ?_);rfl;rfl;(first|exact au HT6.o _|exact HT6.o);kernel_rfl;(simp[Value.oneCell']);intro w9 HS9))
     have HZ:=@Aa (w9.rangeAt w 0 [.int .i64 0,aa,aa,aa,aa,aa]) cu;refine aG (v:=.tuple #[.agg ([.int .i64 0,aa,aa,aa,aa,aa]:List Value).toArray,.bool false]) ?_ rfl ?_
     ·exact iC
     exact Ec.no HF2.o rfl bN
    |some k=>
     have hcase':e=.returned (.tuple #[.agg #[k.signs,k.base,k.name],.bool true]):=hcase;subst hcase';clear hcase;have Hkk:=Aa (Hkok.o k rfl);have HF3:=@Aa (Jo st s=if td=true/\¬(st=82/\k.signs=[]/\Cc k.base vl=true)then none else some ⟨n,b,k,vl⟩) HF2.o;clear HF2 Hkok;cases td with
     |false=>
      go_wp2_with (first|((with_reducible refine Af (op:=⟨none,.store 62 _ _,_,_,_,none⟩) rfl 62 _ _ rfl w2 2 [k.signs,k.base,k.name] ?_ ?_ ?_ ?_ ?_ ?_);rfl;rfl;(exact Me HK5.o 2 3 aL aL);kernel_rfl;(simp[Value.oneCell']);intro w6 HS6;have HT6:=@Aa (w6.there w 0 6) (HS6.o ▸ aj HT5.o _ _ _);have HR6:=@Aa (w6.rangeAt w2 0 [(n:Int),b,k.signs,k.base,k.name,vl]) (HS6.o ▸ Ck [(n:Int),b] [aa,aa,aa] [vl] [k.signs,k.base,k.name] HR5.o rfl);have Hb6:=@Aa (Below w w w6) (HS6.o ▸ Aj _ (Nat.le_of_lt hzz) _ _ _ Hb5.o);have hz6:w2.heap.size<w6.heap.size:=dL;have z2:w6.cell? (w2,2)=k.signs:=dm;have z3:w6.cell? (w2,3)=k.base:=dn;clear HT5 HR5 HK5 HS6)|((with_reducible refine Af (op:=⟨none,.store 105 _ _,_,_,_,none⟩) rfl 105 _ _ rfl w 0 [(n:Int),b,k.signs,k.base,k.name,vl] ?_ ?_ ?_ ?_ ?_ ?_);rfl;rfl;(first|exact au HT6.o _|exact HT6.o);kernel_rfl;(simp[Value.oneCell']);intro w9 HS9)|((with_reducible refine wpList_load_mid (op:=⟨_,.load 105 _,_,_,_,none⟩) rfl 105 _ rfl w2 0 ?_ [(n:Int),b,k.signs,k.base,k.name,vl] _ HR6.o underlying105 ?_ ?_ ?_);rfl;rfl;kernel_rfl))
      have HZ:=@Aa (w9.rangeAt w 0 [(n:Int),b,k.signs,k.base,k.name,vl]) cu;refine aG (v:=.tuple #[.agg ([(n:Int),b,k.signs,k.base,k.name,vl]:List Value).toArray,.bool true]) ?_ rfl ?_
      ·exact jX
      exact Ec.yes (HF3.o.trans (if_neg aN)) rfl bN
     |true=>
      rcases Decidable.em (st=82)with h82|h82
      ·have n82:((st.toNat:Int) != 82)=false:=Nb (c:=st) (d:=82) h82;rcases Decidable.em (k.signs=[])with hsg|hsg
       ·have hsg1:(k.signs != [])=false:=cW;have hsg2:k.signs.isEmpty=true:=cW;have hsg3:(!k.signs.isEmpty)=false:=cW;have hbl:=Qeg Hkk.o.2.1;have Hst:=Aa (fun W=>Qbv k.base vl W hbl aI)
        have Hst2:=Aa (show Jo st s=if Cc k.base vl=true then some ⟨n,b,k,vl⟩else none from by
         rw[HF3.o];by_cases hh:Cc k.base vl=true
         ·rw[if_neg (by simp[h82,hsg,hh]),if_pos hh]
         rw[if_pos (by simp[hh]),if_neg hh])
        generalize Cc k.base vl=sb at Hst Hst2;clear hsg h82 hbl;go_wp2_with ((with_reducible refine Af (op:=⟨none,.store 62 _ _,_,_,_,none⟩) rfl 62 _ _ rfl w2 2 [k.signs,k.base,k.name] ?_ ?_ ?_ ?_ ?_ ?_);rfl;rfl;(exact Me HK5.o 2 3 aL aL);kernel_rfl;(simp[Value.oneCell']);intro w6 HS6;have HT6:=@Aa (w6.there w 0 6) (HS6.o ▸ aj HT5.o _ _ _);have HR6:=@Aa (w6.rangeAt w2 0 [(n:Int),b,k.signs,k.base,k.name,vl]) (HS6.o ▸ Ck [(n:Int),b] [aa,aa,aa] [vl] [k.signs,k.base,k.name] HR5.o rfl);have Hb6:=@Aa (Below w w w6) (HS6.o ▸ Aj _ (Nat.le_of_lt hzz) _ _ _ Hb5.o);have hz6:w2.heap.size<w6.heap.size:=dL;have z2:w6.cell? (w2,2)=k.signs:=dm;have z3:w6.cell? (w2,3)=k.base:=dn;clear HT5 HR5 HK5 HS6)
        refine(Hst.o _).mono ?_;rintro e w7 ⟨rfl,hb7⟩;have HT7:=@Aa (w7.there w 0 6) (An HT6.o aI hb7);have HR7:=@Aa (w7.rangeAt w2 0 _) (Ah HR6.o hz6 hb7);have Hb7:=Aa (Hb6.o.trans (hb7.mono Hb6.o.size));clear hb7 z2 z3;cases sb with
        |true=>
         go_wp2_with (first|((with_reducible refine Af (op:=⟨none,.store 105 _ _,_,_,_,none⟩) rfl 105 _ _ rfl w 0 [(n:Int),b,k.signs,k.base,k.name,vl] ?_ ?_ ?_ ?_ ?_ ?_);rfl;rfl;(first|exact au HT7.o _|exact HT7.o);kernel_rfl;(simp[Value.oneCell']);intro w9 HS9)|((with_reducible refine wpList_load_mid (op:=⟨_,.load 105 _,_,_,_,none⟩) rfl 105 _ rfl w2 0 ?_ [(n:Int),b,k.signs,k.base,k.name,vl] _ HR7.o underlying105 ?_ ?_ ?_);rfl;rfl;kernel_rfl))
         have HZ:=@Aa (w9.rangeAt w 0 [(n:Int),b,k.signs,k.base,k.name,vl]) eZ;refine aG (v:=.tuple #[.agg ([(n:Int),b,k.signs,k.base,k.name,vl]:List Value).toArray,.bool true]) ?_ rfl ?_
         ·exact jX
         exact Ec.yes (Hst2.o.trans (if_pos aN)) rfl dG
        |false=>
         go_wp2_with ((with_reducible refine Af (op:=⟨none,.store 105 _ _,_,_,_,none⟩) rfl 105 _ _ rfl w 0 [.int .i64 0,aa,aa,aa,aa,aa] ?_ ?_ ?_ ?_ ?_ ?_);rfl;rfl;(first|exact au HT7.o _|exact HT7.o);kernel_rfl;(simp[Value.oneCell']);intro w9 HS9)
         have HZ:=@Aa (w9.rangeAt w 0 [.int .i64 0,aa,aa,aa,aa,aa]) eZ;refine aG (v:=.tuple #[.agg ([.int .i64 0,aa,aa,aa,aa,aa]:List Value).toArray,.bool false]) ?_ rfl ?_
         ·exact iC
         exact Ec.no (Hst2.o.trans (if_neg aL)) rfl dG
       have hsg1:(k.signs != [])=true:=cW;have hsg2:k.signs.isEmpty=false:=cW;have hsg3:(!k.signs.isEmpty)=true:=cW;have Hw:=Aa (HF3.o.trans (if_pos ⟨rfl,fun h=>hsg h.2.1⟩));clear hsg h82;go_wp2_with (first|((with_reducible refine Af (op:=⟨none,.store 62 _ _,_,_,_,none⟩) rfl 62 _ _ rfl w2 2 [k.signs,k.base,k.name] ?_ ?_ ?_ ?_ ?_ ?_);rfl;rfl;(exact Me HK5.o 2 3 aL aL);kernel_rfl;(simp[Value.oneCell']);intro w6 HS6;have HT6:=@Aa (w6.there w 0 6) (HS6.o ▸ aj HT5.o _ _ _);have HR6:=@Aa (w6.rangeAt w2 0 [(n:Int),b,k.signs,k.base,k.name,vl]) (HS6.o ▸ Ck [(n:Int),b] [aa,aa,aa] [vl] [k.signs,k.base,k.name] HR5.o rfl);have Hb6:=@Aa (Below w w w6) (HS6.o ▸ Aj _ (Nat.le_of_lt hzz) _ _ _ Hb5.o);have hz6:w2.heap.size<w6.heap.size:=dL;have z2:w6.cell? (w2,2)=k.signs:=dm;have z3:w6.cell? (w2,3)=k.base:=dn;clear HT5 HR5 HK5 HS6)|((with_reducible refine Af (op:=⟨none,.store 105 _ _,_,_,_,none⟩) rfl 105 _ _ rfl w 0 [.int .i64 0,aa,aa,aa,aa,aa] ?_ ?_ ?_ ?_ ?_ ?_);rfl;rfl;(first|exact au HT6.o _|exact HT6.o);kernel_rfl;(simp[Value.oneCell']);intro w9 HS9))
       have HZ:=@Aa (w9.rangeAt w 0 [.int .i64 0,aa,aa,aa,aa,aa]) cu;refine aG (v:=.tuple #[.agg ([.int .i64 0,aa,aa,aa,aa,aa]:List Value).toArray,.bool false]) ?_ rfl ?_
       ·exact iC
       exact Ec.no Hw.o rfl bN
      have n82:((st.toNat:Int) != 82)=true:=Qq (c:=st) (d:=82) h82;have Hw:=Aa (HF3.o.trans (if_pos ⟨rfl,fun h=>h82 h.1⟩));clear h82;go_wp2_with (first|((with_reducible refine Af (op:=⟨none,.store 62 _ _,_,_,_,none⟩) rfl 62 _ _ rfl w2 2 [k.signs,k.base,k.name] ?_ ?_ ?_ ?_ ?_ ?_);rfl;rfl;(exact Me HK5.o 2 3 aL aL);kernel_rfl;(simp[Value.oneCell']);intro w6 HS6;have HT6:=@Aa (w6.there w 0 6) (HS6.o ▸ aj HT5.o _ _ _);have HR6:=@Aa (w6.rangeAt w2 0 [(n:Int),b,k.signs,k.base,k.name,vl]) (HS6.o ▸ Ck [(n:Int),b] [aa,aa,aa] [vl] [k.signs,k.base,k.name] HR5.o rfl);have Hb6:=@Aa (Below w w w6) (HS6.o ▸ Aj _ (Nat.le_of_lt hzz) _ _ _ Hb5.o);have hz6:w2.heap.size<w6.heap.size:=dL;have z2:w6.cell? (w2,2)=k.signs:=dm;have z3:w6.cell? (w2,3)=k.base:=dn;clear HT5 HR5 HK5 HS6)|((with_reducible refine Af (op:=⟨none,.store 105 _ _,_,_,_,none⟩) rfl 105 _ _ rfl w 0 [.int .i64 0,aa,aa,aa,aa,aa] ?_ ?_ ?_ ?_ ?_ ?_);rfl;rfl;(first|exact au HT6.o _|exact HT6.o);kernel_rfl;(simp[Value.oneCell']);intro w9 HS9))
      have HZ:=@Aa (w9.rangeAt w 0 [.int .i64 0,aa,aa,aa,aa,aa]) cu;refine aG (v:=.tuple #[.agg ([.int .i64 0,aa,aa,aa,aa,aa]:List Value).toArray,.bool false]) ?_ rfl ?_
      ·exact iC
      exact Ec.no Hw.o rfl bN
 have Hno:=Aa (HF.o.trans (Yc (vl:=vl) (td:=td) (st:=st) (ps:=ps) (by rw[if_neg Hst0.o];exact hlen)));have hl1:¬(ps.length:Int)=3:=aI;have hl2:((ps.length:Int) != 3)=true:=by rw[bne_iff_ne];exact hl1
 clear HF Hpl Hcells;go_wp2_with ((with_reducible refine Af (op:=⟨none,.store 105 _ _,_,_,_,none⟩) rfl 105 _ _ rfl w 0 [.int .i64 0,aa,aa,aa,aa,aa] ?_ ?_ ?_ ?_ ?_ ?_);rfl;rfl;(first|exact au HT.o _|exact HT.o);kernel_rfl;(simp[Value.oneCell']);intro w9 HS9)
 have HZ:=@Aa (w9.rangeAt w 0 [.int .i64 0,aa,aa,aa,aa,aa]) bD;refine aG (v:=.tuple #[.agg ([.int .i64 0,aa,aa,aa,aa,aa]:List Value).toArray,.bool false]) ?_ rfl ?_
 ·exact iC
 exact Ec.no Hno.o rfl bc
theorem Qae(st:UInt8)(hst:Ed st)(s:List UInt8)(w:World)(hs:s.length<=4000000):
  Calls prog 166 #[s,.int .u8 (st.toNat:Int)] w (Ec (Jo st s) w):=by
 by_cases h:st=69
 ·exact Qi4 st h s w hs
 exact Qi1 st h s w hs
def Fo(o:Option Ty)(w:World)(e:Ending)(w':World):Prop:=
 (match o with
  |some t=>∃x:PT,x.ty=t/\e=.returned (.tuple #[x.ptr,.bool true])/\w.heap.size<=x.blk/\Rl w' x/\∀k,x.fv.ownBlock=some k->w.heap.size<=k
  |none=>∃p:Option Addr,e=.returned (.tuple #[.pointer p,.bool false]))/\Below w w w'
theorem Fo.no{w w':World}{e:Ending}{o:Option Ty}(ho:o=none){p:Option Addr}(he:e=.returned (.tuple #[.pointer p,.bool false]))(hb:Below w w w'):Fo o w e w':=by
 rw[ho];exact⟨⟨p,he⟩,hb⟩
theorem Fo.yes{w w':World}{e:Ending}{o:Option Ty}{t:Ty}(ho:o=some t){b:Nat}{fv:Value}(he:e=.returned (.tuple #[b,.bool true]))(hwb:w.heap.size<=b)(ht:Rl w' ⟨t,b,fv⟩)(hf:∀k,fv.ownBlock=some k->w.heap.size<=k)(hb:Below w w w'):Fo o w e w':=by
 rw[ho];exact⟨⟨⟨t,b,fv⟩,rfl,he,hwb,ht,hf⟩,hb⟩
theorem Yb(c:UInt8):decide (c∈([82,85,69]:List UInt8))=decide (Ed c):=by
 rw[decide_eq_decide];unfold Ed;simp
theorem Qg0(w:World):Calls prog 135 #[aa] w (Fo (E9 []) w):=by
 go_enter func135,ntmps135;go_wp2_with fail;go_ret2;exact Fo.no rfl rfl (Am _ _)
theorem Qew(c:UInt8)(r:List UInt8)(w:World)(hs:r.length<=3999999)(hc:¬Ed c):Calls prog 135 #[.string ⟨(c::r).toArray⟩] w (Fo (E9 (c::r)) w):=by
 have HF:=Aa (show E9 (c::r)=none by unfold E9;simp only;rw[if_pos (.inl hc)])
 have Hc:=Aa (fun W=>(show Calls prog 164 #[.string ⟨#[82,85,69]⟩,.string ⟨#[c]⟩] W fun e w'=>e=.returned (.bool false)/\W=w' from by
  have:=Pp [82,85,69] c W;rw[Yb,aD hc]at this;exact this))
 clear hc;go_enter func135,ntmps135;go_wp2_with fail;refine(Hc.o _).mono ?_;rintro e w' ⟨rfl,rfl⟩;go_wp2_with fail;go_ret2;exact Fo.no HF.o rfl (Am _ _)
theorem Qed(c:UInt8)(r:List UInt8)(w:World)(hs:r.length<=3999999)(hc:Ed c)(h:(Dg 61 r).2.2=false\/Be (Dg 61 r).1=false\/(Dg 61 r).2.1=[]):Calls prog 135 #[.string ⟨(c::r).toArray⟩] w (Fo (E9 (c::r)) w):=by
 have HF:=Aa (show E9 (c::r)=if (Dg 61 r).2.2=false\/Be (Dg 61 r).1=false then none else(if c=82 then some ⟨c,(Dg 61 r).1,[]⟩else none)by
  unfold E9;simp only;by_cases h1:(Dg 61 r).2.2=false\/Be (Dg 61 r).1=false
  ·rw[if_pos (.inr h1),if_pos h1]
  have h2:(Dg 61 r).2.1=[]:=by
   rcases h with h|h|h
   ·exact absurd (.inl h) h1
   ·exact absurd (.inr h) h1
   exact h
  rw[if_neg (fun h3=>h3.elim (fun h3=>h3 hc) h1),if_neg h1,if_pos h2])
 have Hc:=Aa (fun W=>(show Calls prog 164 #[.string ⟨#[82,85,69]⟩,.string ⟨#[c]⟩] W fun e w'=>e=.returned (.bool true)/\W=w' from by
  have:=Pp [82,85,69] c W;rw[Yb,aE hc]at this;exact this))
 have Hl:=Aa (fun(f:(Dg 61 r).2.2=true/\(Dg 61 r).2.1=[])=>show Xe ⟨c,(Dg 61 r).1,[]⟩=c::r from by
  rcases Fv 61 r with⟨_,e⟩|⟨p,t,e1,_,e⟩
  ·rw[e]at f;cases f.1
  rw[e]at f ⊢;simp only at f;have:=f.2;subst this;rw[e1];rfl)
 have Hcut:=Aa (fun W=>S5 r 61 W aI);have hcl:=(Mn 61 r).1;generalize Dg 61 r=q at *;obtain⟨nm,rest,told⟩:=q;simp only at hcl HF h Hl;have Hh:=Aa h;have Hc82:=Aa hc;clear hc h;go_enter func135,ntmps135;go_wp2_with fail;refine(Hc.o _).mono ?_;rintro e w' ⟨rfl,rfl⟩;go_wp2_with fail;refine(Hcut.o _).mono ?_;rintro e w1 ⟨rfl,k1,rfl⟩;unfold Qcp;cases told with
 |false=>
  go_wp2_with fail;go_ret2;exact Fo.no (HF.o.trans (if_pos aN)) rfl (below_drewN (Am _ _) _)
 |true=>
  have Hname:=Aa (fun W=>Mm nm W aI);generalize hnb:Be nm=nb at *;have Hnb:=Aa hnb;clear hnb;go_wp2_with fail;refine(Hname.o _).mono ?_;rintro e w2 ⟨rfl,hb2⟩;have Hb2:=@Aa (Below w w w2) ((below_drewN (Am _ _) k1).trans (by simpa using hb2));clear hb2;cases nb with
  |false=>
   go_wp2_with fail;go_ret2;exact Fo.no (HF.o.trans (if_pos aN)) rfl Hb2.o
  |true=>
   obtain rfl:rest=[]:=by
    rcases Hh.o with h|h|h
    ·cases h
    ·cases h
    exact h
   have HF2:=Aa (HF.o.trans (if_neg aN));have Hl2:=Aa (Hl.o aN);have hz:=Hb2.o.size;rcases Decidable.em (c=82)with h82|h82
   ·have t1:((c.toNat:Int) == 82)=true:=Bl (d:=82) h82;have HF3:=Aa (HF2.o.trans (if_pos h82));clear h82;go_wp2_with fail;go_quiet (fail)
    go_wp2_with fail;go_ret2;refine Fo.yes HF3.o (b:=w2.heap.size) (fv:=.slice none 0 0) rfl Hb2.o.size ?_ (fun k hk=>by simp[Value.ownBlock]at hk) dQ;refine⟨by simp,by first|exact Qa.new _ _ _|exact Qa.belowAt (Qa.new w2 _ _) aN (by first|exact below_drewN (Am _ _) _|exact(Am _ _).drew),by simp,by simp,by simp,?_,none,0,rfl,by simp,rfl,ah _,fun h=>absurd h aN⟩;rw[Hl2.o];simp
   have t1:((c.toNat:Int) == 82)=false:=Ap (d:=82) h82;have HF3:=Aa (HF2.o.trans (if_neg h82));clear h82;go_wp2_with fail;go_quiet (fail)
   go_wp2_with fail;go_ret2;exact Fo.no HF3.o rfl dQ
def Qk3(c:UInt8)(nm:List UInt8):Option (List Fd)->Option Ty
 |some r=>some ⟨c,nm,r⟩
 |none=>none
theorem Qb7{c:UInt8}{r nm rest:List UInt8}(hc:Ed c)(h:Dg 61 r=(nm,rest,true))(hn:Be nm=true)(hr:rest≠[]):E9 (c::r)=Qk3 c nm (Fz c (Ak 44 rest) []):=by
 unfold E9;simp only[h];rw[if_neg (by simp[hc,hn]),if_neg hr];cases Fz c (Ak 44 rest) []<;>rfl
theorem Qbn{c:UInt8}{ps:List (List UInt8)}{acc:List Fd}{k:Nat}(hk:k<ps.length):Fz c (ps.drop k) acc=(match Jo c ps[k]with|none=>none|some f=>if acc.length=8\/G6 acc f=false then none else Fz c (ps.drop (k+1)) (acc++[f])):=by
 rw[List.drop_eq_getElem_cons hk,Fz];cases Jo c ps[k]<;>rfl
theorem Qes{acc:List Fd}{f:Fd}(h:∀g∈acc,g.name≠f.name/\g.tag<f.tag):G6 acc f=true:=Mw.2 h
theorem Qdi{acc:List Fd}{f x:Fd}(hx:x∈acc)(h:f.tag<=x.tag\/x.name=f.name):G6 acc f=false:=by
 cases hh:G6 acc f with
 |false=>rfl
 |true=>
  obtain⟨h1,h2⟩:=Mw.1 hh x hx;rcases h with h|h
  ·omega
  exact absurd h h1
theorem Md(w:World)(a:Addr)(v:Value):w.grownBy (w.setCell a v) (some a.block):=
 ⟨rfl,rfl,rfl,by simp,fun k _ hk=>Go.heap_setCell_other _ _ _ _ (fun e=>hk (by rw[e]))⟩
theorem Ew{w:World}{base k n:Nat}{e:TypeId}{v:Value}{xs:List Value}(h:w.ownsRow base e k v n xs):∃A m c,v=.slice A m c:=by
 rcases h.2 with⟨rfl,_⟩|⟨g,cap,cur,rfl,_⟩
 ·exact⟨_,_,_,rfl⟩
 exact⟨_,_,_,rfl⟩
theorem Rk.range{w:World}{A:Option Addr}{fs:List Fd}(hr:Bx w A (fs.length*6) (fs.flatMap Tf)){i:Nat}(hi:i<fs.length):∃b off,A=some ⟨b,off,none⟩/\b<w.heap.size/\w.rangeAt b (off+i*6) (Tf fs[i]):=by
 obtain⟨b,off,e,hlt,hc⟩:=hr.elem Qf7 aL hi;exact⟨b,off,e,hlt,fun j v hv=>by rw[Nat.add_assoc];exact hc j v hv⟩
theorem Tryz.infoIf:(prog.info? 105).map (fun i=>(i.zero,i.size,i.bytes))=some (some (.agg #[.int .i64 0,aa,aa,aa,aa,aa]),6,88):=aP
theorem Qkl(fs:List Fd):∀y∈fs.flatMap Tf,y.oneCell'=true:=by
 intro y hy;obtain⟨f,_,hf⟩:=List.mem_flatMap.1 hy;simp[Tf]at hf;rcases hf with rfl|rfl|rfl|rfl|rfl|rfl<;>rfl
end
end Go.Proofs.YtpjijpcemejlnaaGreatDoor
