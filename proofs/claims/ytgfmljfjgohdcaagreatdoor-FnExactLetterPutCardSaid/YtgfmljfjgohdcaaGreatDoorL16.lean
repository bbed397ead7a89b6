/- Texts joined. Conditions: as each theorem names them. -/
import Derived.BigRegion
import Derived.BigQuiet
import Derived.Deep.QuietTactic
import Derived.Test.YtgfmljfjgohdcaaGreatDoorL04
import Derived.Test.YtgfmljfjgohdcaaGreatDoorL15
set_option maxRecDepth 100000
set_option maxHeartbeats 32000000
set_option linter.unusedVariables false
set_option linter.unusedSimpArgs false
namespace Go.Proofs.YtgfmljfjgohdcaaGreatDoor
open Go.RowKit Go.Proofs.Tryz
section
attribute [local go_sem] Qls Qkr Qj4 Qig ByteArray.mk_append_mk
theorem Ke(c:UInt8)(s:List UInt8):(Cy c s).1.length<=s.length/\(Cy c s).2.1.length<=s.length:=by
 rcases Eu c s with⟨_,h⟩|⟨p,t,rfl,_,h⟩
 ·rw[h];simp
 rw[h];simp;omega
def Mc(st:UInt8)(ps:List (List UInt8))(vl:List UInt8)(td:Bool):Option Fd:=
 if st=69 then
  match Jw ps with
  |some (n,b)=>if td=true then none else some ⟨n,b,Kd.nil,vl⟩
  |none=>none
 else
  match Kr ps with
  |some (n,b,c)=>(match Cm c with
   |some k=>if td=true/\¬(st=82/\k.signs=[]/\Bv k.base vl=true)then none else some ⟨n,b,k,vl⟩
   |none=>none)
  |none=>none
theorem Yg(st:UInt8)(s:List UInt8):Gh st s=Mc st (Ai 58 (Cy 61 s).1) (Cy 61 s).2.1 (Cy 61 s).2.2:=rfl
theorem T6{st:UInt8}{ps:List (List UInt8)}{vl:List UInt8}{td:Bool}(h:ps.length≠if st=69 then 2 else 3):Mc st ps vl td=none:=by
 unfold Mc;by_cases e:st=69
 ·rw[if_pos e]at h ⊢;match ps,h with
  |[],_=>rfl
  |[_],_=>rfl
  |[_,_],h=>exact absurd rfl h
  |_::_::_::_,_=>rfl
 rw[if_neg e]at h ⊢;match ps,h with
 |[],_=>rfl
 |[_],_=>rfl
 |[_,_],_=>rfl
 |[_,_,_],h=>exact absurd rfl h
 |_::_::_::_::_,_=>rfl
def Ni(a b:List UInt8)(n:Nat):Prop:=Cg a=some n/\1<=n/\n<=200/\At b=true
theorem Sr{st:UInt8}{a b:List UInt8}{r:List (List UInt8)}{vl:List UInt8}{td:Bool}(h:∀n,¬Ni a b n):Mc st (a::b::r) vl td=none:=by
 have h2:∀c,Jw (a::b::c)=none:=by
  intro c;match c with
  |[]=>
   cases hd:Cg a with
   |none=>simp only[Jw,hd]
   |some n=>simp only[Jw,hd];exact if_neg fun(e:1<=n/\n<=200/\At b=true)=>h n ⟨hd,e.1,e.2.1,e.2.2⟩
  |_::_=>rfl
 have h3:∀c,Kr (a::b::c)=none:=by
  intro c;match c with
  |[]=>rfl
  |[x]=>
   cases hd:Cg a with
   |none=>simp only[Kr,hd]
   |some n=>simp only[Kr,hd];exact if_neg fun(e:1<=n/\n<=200/\At b=true)=>h n ⟨hd,e.1,e.2.1,e.2.2⟩
  |_::_::_=>rfl
 unfold Mc;rw[h2,h3];split<;>rfl
theorem Qgy{a b:List UInt8}{vl:List UInt8}{td:Bool}{n:Nat}(h:Ni a b n):Mc 69 [a,b] vl td=if td=true then none else some ⟨n,b,Kd.nil,vl⟩:=by
 obtain⟨h1,h2,h3,h4⟩:=h;unfold Mc Jw;simp[h1,h2,h3,h4]
theorem Qg3{st:UInt8}{a b c:List UInt8}{vl:List UInt8}{td:Bool}{n:Nat}(hst:st≠69)(h:Ni a b n):Mc st [a,b,c] vl td=(match Cm c with
   |some k=>if td=true/\¬(st=82/\k.signs=[]/\Bv k.base vl=true)then none else some ⟨n,b,k,vl⟩
   |none=>none):=by
 obtain⟨h1,h2,h3,h4⟩:=h;unfold Mc Kr;simp[h1,h2,h3,h4,hst]
theorem Qdi{k:Kd}(h:Zn k):Qjz k.base:=by
 rcases h with⟨h,_⟩|⟨h|h|h,_⟩
 ·exact .inr (.inr (.inr h))
 ·exact .inl h
 ·exact .inr (.inl h)
 exact .inr (.inr (.inl h))
theorem Qj8{ps:List (List UInt8)}(h:ps.length=2):∃a b,ps=[a,b]:=by
 match ps,h with
 |[a,b],_=>exact⟨a,b,rfl⟩
theorem Qkf{ps:List (List UInt8)}(h:ps.length=3):∃a b c,ps=[a,b,c]:=by
 match ps,h with
 |[a,b,c],_=>exact⟨a,b,c,rfl⟩
theorem Sm{w:World}{b o n:Nat}(h:w.there b o n)(k:Nat):(w.drewN k).there b o n:=by
 induction k generalizing w with
 |zero=>exact h
 |succ k ih=>exact ih aV
theorem Qha(st:UInt8)(hst:st=69)(s:List UInt8)(w:World)(hs:s.length<=4000000):
  Calls prog 192 #[s,.int .u8 (st.toNat:Int)] w (Dv (Gh st s) w):=by
 have HF:=Aa (Yg st s);have Hcut:=Aa (fun W=>Q4 s 61 W aF);have hcl:=(Ke 61 s).1;have hvl:=(Ke 61 s).2;generalize Cy 61 s=r at HF Hcut hcl hvl;obtain⟨hd,vl,td⟩:=r;simp only at hcl hvl HF;have Hsp:=Aa (fun W=>Rn hd 58 W aF);have hne:=D8 58 hd;have Hpl:=Aa (Ak 58 hd);generalize Ai 58 hd=ps at HF Hsp hne Hpl;have e69:((st.toNat:Int) == 69)=true:=Ba hst;have n69:((st.toNat:Int) != 69)=false:=Kx hst;have Hst0:=Aa hst;clear hst;go_enter func192,ntmps192;go_wp2_with fail;refine(Hcut.o _).mono ?_;rintro e w1 ⟨rfl,k1,rfl⟩;unfold Qb4;go_wp2_with fail;refine(Hsp.o _).mono ?_;rintro e w2 ⟨v,rfl,ho,hb⟩;obtain⟨g,c,rfl,hg1,hg2,hcells⟩:=Mn ho hne;have hzz:w.heap.size<w2.heap.size:=by have:=hb.size;simp at this;omega
 have HT:=@Aa (w2.there w 0 6) (An (Sm (B9 w [.int .i64 0,a6,a6,a6,a6,a6] 107) k1) aH hb);have Hb:=@Aa (Below w w w2) ((below_drewN ((Ar w.heap.size w).alloc (Am _) _) k1).trans (hb.mono aH));have Hcells:=Aa hcells;clear hb ho hcells hne;by_cases hlen:ps.length=2
 ·obtain⟨a,b,rfl⟩:=Qj8 hlen;have c0:=Hcells.o 0 aH;have c1:=Hcells.o 1 aH;simp at c0 c1;have la:a.length<=4000000:=by have:=Hpl.o a aH;omega
  have lb:b.length<=4000000:=by have:=Hpl.o b aH;omega
  clear Hpl Hcells hlen;have hpn:=fun W=>(show Calls prog 201 #[a,.int .i64 200] W fun e w'=>e=.returned (pnV a 200)/\W=w' from Ez a 200 W aF aI)
  have Hhead:=@Aa (∀n,Ni a b n↔Cg a=some n/\1<=n/\n<=200/\At b=true) (fun n=>Iff.rfl);have Hno:=Aa (fun(h:∀n,¬Ni a b n)=>HF.o.trans (Sr h));generalize hda:Cg a=od at *;have Hda:=Aa hda;clear hda;cases od with
  |none=>
   have Hpn:=Aa (fun W=>(Qd (m:=200) Hda.o) ▸ hpn W);clear hpn;go_wp2_with fail;refine(Hpn.o _).mono ?_;rintro e w3 ⟨rfl,rfl⟩;go_wp2_with ((with_reducible refine Ad (op:=⟨none,.store 107 _ _,_,_,_,none⟩) rfl 107 _ _ rfl w 0 [.int .i64 0,a6,a6,a6,a6,a6] ?_ ?_ ?_ ?_ ?_ ?_);rfl;rfl;(first|exact ap HT.o _|exact HT.o);kernel_rfl;(simp[Value.oneCell']);intro w9 HS9)
   have HZ:=@Aa (w9.rangeAt w 0 [.int .i64 0,a6,a6,a6,a6,a6]) bh;refine aD (v:=.tuple #[.agg ([.int .i64 0,a6,a6,a6,a6,a6]:List Value).toArray,.bool false]) ?_ rfl ?_
   ·exact fL
   exact ip
  |some n=>
   have Hpn:=Aa (fun W=>(Qp (m:=200) Hda.o) ▸ hpn W);clear hpn;have hn9:n<=999999:=(Br.1 Hda.o).1;rcases aE 200 n with h200|h200
   ·exact fR
   have Hdec:=Aa (show decide (n<=200)=true by simp;omega);rw[Hdec.o]at Hpn;rcases Nat.eq_zero_or_pos n with h0|h0
   ·exact fS
   have hlt1:decide ((n:Int)<1)=false:=dF;have Hname:=Aa (fun W=>J4 b W aF);generalize hnb:At b=nb at *;have Hnb:=Aa hnb;clear hnb;go_wp2_with fail;refine(Hpn.o _).mono ?_;rintro e w3 ⟨rfl,rfl⟩;go_wp2_with fail;refine(Hname.o _).mono ?_;rintro e w4 ⟨rfl,hb4⟩;have hz4:w2.heap.size<w4.heap.size:=dE;have HT4:=@Aa (w4.there w 0 6) (An (ap HT.o _) aL hb4);have HR4:=@Aa (w4.rangeAt w2 0 [(n:Int),b,a6,a6,a6,vl]) (Ah (Bo w2 _ _) aH hb4);have HK4:=@Aa (w4.there w2 0 6) (An (B9 w2 [(n:Int),b,a6,a6,a6,vl] _) aH hb4);have Hb4:=@Aa (Below w w w4) ((Hb.o.alloc Hb.o.size _).trans (hb4.mono aL));clear hb4;cases nb with
   |false=>
    go_wp2_with ((with_reducible refine Ad (op:=⟨none,.store 107 _ _,_,_,_,none⟩) rfl 107 _ _ rfl w 0 [.int .i64 0,a6,a6,a6,a6,a6] ?_ ?_ ?_ ?_ ?_ ?_);rfl;rfl;(first|exact ap HT4.o _|exact HT4.o);kernel_rfl;(simp[Value.oneCell']);intro w9 HS9)
    have HZ:=@Aa (w9.rangeAt w 0 [.int .i64 0,a6,a6,a6,a6,a6]) bT;refine aD (v:=.tuple #[.agg ([.int .i64 0,a6,a6,a6,a6,a6]:List Value).toArray,.bool false]) ?_ rfl ?_
    ·exact fL
    exact iq
   |true=>
    have Hok:=@Aa (Ni a b n) ((Hhead.o n).2 ⟨rfl,h0,h200,rfl⟩);have HF2:=Aa (HF.o.trans (show Mc st [a,b] vl td=if td=true then none else some ⟨n,b,Kd.nil,vl⟩from by rw[Hst0.o];exact Qgy Hok.o));clear Hno Hhead HF;have n82:((st.toNat:Int) != 82)=true:=Nq (c:=st) (d:=82) (by rw[Hst0.o];decide);cases td with
    |true=>
     go_wp2_with ((with_reducible refine Ad (op:=⟨none,.store 107 _ _,_,_,_,none⟩) rfl 107 _ _ rfl w 0 [.int .i64 0,a6,a6,a6,a6,a6] ?_ ?_ ?_ ?_ ?_ ?_);rfl;rfl;(first|exact ap HT4.o _|exact HT4.o);kernel_rfl;(simp[Value.oneCell']);intro w9 HS9)
     have HZ:=@Aa (w9.rangeAt w 0 [.int .i64 0,a6,a6,a6,a6,a6]) bT;refine aD (v:=.tuple #[.agg ([.int .i64 0,a6,a6,a6,a6,a6]:List Value).toArray,.bool false]) ?_ rfl ?_
     ·exact fL
     exact Dv.no (HF2.o.trans aH) rfl bq
    |false=>
     go_wp2_with (first|((with_reducible refine Ad (op:=⟨none,.store 107 _ _,_,_,_,none⟩) rfl 107 _ _ rfl w 0 [(n:Int),b,a6,a6,a6,vl] ?_ ?_ ?_ ?_ ?_ ?_);rfl;rfl;(first|exact ap HT4.o _|exact HT4.o);kernel_rfl;(simp[Value.oneCell']);intro w9 HS9)|((with_reducible refine wpList_load_mid (op:=⟨_,.load 107 _,_,_,_,none⟩) rfl 107 _ rfl w2 0 ?_ [(n:Int),b,a6,a6,a6,vl] _ HR4.o underlying107 ?_ ?_ ?_);rfl;rfl;kernel_rfl))
     have HZ:=@Aa (w9.rangeAt w 0 [(n:Int),b,a6,a6,a6,vl]) bT;refine aD (v:=.tuple #[.agg ([(n:Int),b,a6,a6,a6,vl]:List Value).toArray,.bool true]) ?_ rfl ?_
     ·exact Aj results192 _ _ w.heap.size [(n:Int),b,a6,a6,a6,vl] _ _ rfl rfl HZ.o underlying107 rfl aJ
     exact Dv.yes (HF2.o.trans (if_neg (fun h=>by cases h))) rfl bq
 have Hno:=Aa (HF.o.trans (T6 (vl:=vl) (td:=td) (st:=st) (ps:=ps) (by rw[if_pos Hst0.o];exact hlen)));have hl1:¬(ps.length:Int)=2:=aF;have hl2:((ps.length:Int) != 2)=true:=by rw[bne_iff_ne];exact hl1
 clear HF Hpl Hcells;go_wp2_with ((with_reducible refine Ad (op:=⟨none,.store 107 _ _,_,_,_,none⟩) rfl 107 _ _ rfl w 0 [.int .i64 0,a6,a6,a6,a6,a6] ?_ ?_ ?_ ?_ ?_ ?_);rfl;rfl;(first|exact ap HT.o _|exact HT.o);kernel_rfl;(simp[Value.oneCell']);intro w9 HS9)
 have HZ:=@Aa (w9.rangeAt w 0 [.int .i64 0,a6,a6,a6,a6,a6]) bh;refine aD (v:=.tuple #[.agg ([.int .i64 0,a6,a6,a6,a6,a6]:List Value).toArray,.bool false]) ?_ rfl ?_
 ·exact fL
 exact Dv.no Hno.o rfl aT
theorem Qgv(st:UInt8)(hst:st≠69)(s:List UInt8)(w:World)(hs:s.length<=4000000):
  Calls prog 192 #[s,.int .u8 (st.toNat:Int)] w (Dv (Gh st s) w):=by
 have HF:=Aa (Yg st s);have Hcut:=Aa (fun W=>Q4 s 61 W aF);have hcl:=(Ke 61 s).1;have hvl:=(Ke 61 s).2;generalize Cy 61 s=r at HF Hcut hcl hvl;obtain⟨hd,vl,td⟩:=r;simp only at hcl hvl HF;have Hsp:=Aa (fun W=>Rn hd 58 W aF);have hne:=D8 58 hd;have Hpl:=Aa (Ak 58 hd);generalize Ai 58 hd=ps at HF Hsp hne Hpl;have e69:((st.toNat:Int) == 69)=false:=Ao hst;have n69:((st.toNat:Int) != 69)=true:=Nq hst;have Hst0:=Aa hst;clear hst;go_enter func192,ntmps192;go_wp2_with fail;refine(Hcut.o _).mono ?_;rintro e w1 ⟨rfl,k1,rfl⟩;unfold Qb4;go_wp2_with fail;refine(Hsp.o _).mono ?_;rintro e w2 ⟨v,rfl,ho,hb⟩;obtain⟨g,c,rfl,hg1,hg2,hcells⟩:=Mn ho hne;have hzz:w.heap.size<w2.heap.size:=by have:=hb.size;simp at this;omega
 have HT:=@Aa (w2.there w 0 6) (An (Sm (B9 w [.int .i64 0,a6,a6,a6,a6,a6] 107) k1) aH hb);have Hb:=@Aa (Below w w w2) ((below_drewN ((Ar w.heap.size w).alloc (Am _) _) k1).trans (hb.mono aH));have Hcells:=Aa hcells;clear hb ho hcells hne;by_cases hlen:ps.length=3
 ·obtain⟨a,b,d,rfl⟩:=Qkf hlen;have c0:=Hcells.o 0 aH;have c1:=Hcells.o 1 aH;have c2:=Hcells.o 2 aH;simp at c0 c1 c2;have la:a.length<=4000000:=by have:=Hpl.o a aH;omega
  have lb:b.length<=4000000:=by have:=Hpl.o b aH;omega
  have ld:d.length<=4000000:=by have:=Hpl.o d aH;omega
  clear Hpl Hcells hlen;have hpn:=fun W=>(show Calls prog 201 #[a,.int .i64 200] W fun e w'=>e=.returned (pnV a 200)/\W=w' from Ez a 200 W aF aI)
  have Hhead:=@Aa (∀n,Ni a b n↔Cg a=some n/\1<=n/\n<=200/\At b=true) (fun n=>Iff.rfl);have Hno:=Aa (fun(h:∀n,¬Ni a b n)=>HF.o.trans (Sr h));generalize hda:Cg a=od at *;have Hda:=Aa hda;clear hda;cases od with
  |none=>
   have Hpn:=Aa (fun W=>(Qd (m:=200) Hda.o) ▸ hpn W);clear hpn;go_wp2_with fail;refine(Hpn.o _).mono ?_;rintro e w3 ⟨rfl,rfl⟩;go_wp2_with ((with_reducible refine Ad (op:=⟨none,.store 107 _ _,_,_,_,none⟩) rfl 107 _ _ rfl w 0 [.int .i64 0,a6,a6,a6,a6,a6] ?_ ?_ ?_ ?_ ?_ ?_);rfl;rfl;(first|exact ap HT.o _|exact HT.o);kernel_rfl;(simp[Value.oneCell']);intro w9 HS9)
   have HZ:=@Aa (w9.rangeAt w 0 [.int .i64 0,a6,a6,a6,a6,a6]) bh;refine aD (v:=.tuple #[.agg ([.int .i64 0,a6,a6,a6,a6,a6]:List Value).toArray,.bool false]) ?_ rfl ?_
   ·exact fL
   exact ip
  |some n=>
   have Hpn:=Aa (fun W=>(Qp (m:=200) Hda.o) ▸ hpn W);clear hpn;have hn9:n<=999999:=(Br.1 Hda.o).1;rcases aE 200 n with h200|h200
   ·exact fR
   have Hdec:=Aa (show decide (n<=200)=true by simp;omega);rw[Hdec.o]at Hpn;rcases Nat.eq_zero_or_pos n with h0|h0
   ·exact fS
   have hlt1:decide ((n:Int)<1)=false:=dF;have Hname:=Aa (fun W=>J4 b W aF);generalize hnb:At b=nb at *;have Hnb:=Aa hnb;clear hnb;go_wp2_with fail;refine(Hpn.o _).mono ?_;rintro e w3 ⟨rfl,rfl⟩;go_wp2_with fail;refine(Hname.o _).mono ?_;rintro e w4 ⟨rfl,hb4⟩;have hz4:w2.heap.size<w4.heap.size:=dE;have HT4:=@Aa (w4.there w 0 6) (An (ap HT.o _) aL hb4);have HR4:=@Aa (w4.rangeAt w2 0 [(n:Int),b,a6,a6,a6,vl]) (Ah (Bo w2 _ _) aH hb4);have HK4:=@Aa (w4.there w2 0 6) (An (B9 w2 [(n:Int),b,a6,a6,a6,vl] _) aH hb4);have Hb4:=@Aa (Below w w w4) ((Hb.o.alloc Hb.o.size _).trans (hb4.mono aL));have c2x:w4.cell? (g,2)=d:=(hb4.cell (p:=⟨g,2,none⟩) aL).trans (by rw[World.cell?_alloc_old _ _ _ aL];exact c2);clear hb4;cases nb with
   |false=>
    go_wp2_with ((with_reducible refine Ad (op:=⟨none,.store 107 _ _,_,_,_,none⟩) rfl 107 _ _ rfl w 0 [.int .i64 0,a6,a6,a6,a6,a6] ?_ ?_ ?_ ?_ ?_ ?_);rfl;rfl;(first|exact ap HT4.o _|exact HT4.o);kernel_rfl;(simp[Value.oneCell']);intro w9 HS9)
    have HZ:=@Aa (w9.rangeAt w 0 [.int .i64 0,a6,a6,a6,a6,a6]) bT;refine aD (v:=.tuple #[.agg ([.int .i64 0,a6,a6,a6,a6,a6]:List Value).toArray,.bool false]) ?_ rfl ?_
    ·exact fL
    exact iq
   |true=>
    have Hok:=@Aa (Ni a b n) ((Hhead.o n).2 ⟨rfl,h0,h200,rfl⟩);have HF2:=Aa (HF.o.trans (Qg3 (c:=d) (vl:=vl) (td:=td) Hst0.o Hok.o));clear Hno Hhead HF;have Hkd:=Aa (fun W=>Ra d W ld);have Hkok:=Aa (fun k (h:Cm d=some k)=>(Ek.1 h).1);generalize Cm d=ok at HF2 Hkd Hkok;go_wp2_with fail;refine(Hkd.o _).mono ?_;rintro e w5 ⟨hcase,hb5⟩;have HT5:=@Aa (w5.there w 0 6) (An HT4.o aF hb5);have HR5:=@Aa (w5.rangeAt w2 0 _) (Ah HR4.o hz4 hb5);have HK5:=@Aa (w5.there w2 0 6) (An HK4.o hz4 hb5);have Hb5:=Aa (Hb4.o.trans (hb5.mono Hb4.o.size));have hz5:w2.heap.size<w5.heap.size:=a8 hz4 hb5.size;clear hb5;cases ok with
    |none=>
     obtain⟨a1,a2,a3,rfl⟩:=hcase;go_wp2_with (first|((with_reducible refine Ad (op:=⟨none,.store 67 _ _,_,_,_,none⟩) rfl 67 _ _ rfl w2 2 [.string a1,.string a2,.string a3] ?_ ?_ ?_ ?_ ?_ ?_);rfl;rfl;(exact G7 HK5.o 2 3 aI aI);kernel_rfl;(simp[Value.oneCell']);intro w6 HS6;have HT6:=@Aa (w6.there w 0 6) (HS6.o ▸ ag HT5.o _ _ _);have HR6:=@Aa (w6.rangeAt w2 0 [(n:Int),b,.string a1,.string a2,.string a3,vl]) (HS6.o ▸ Cv [(n:Int),b] [a6,a6,a6] [vl] [.string a1,.string a2,.string a3] HR5.o rfl);have Hb6:=@Aa (Below w w w6) (HS6.o ▸ Ag _ (Nat.le_of_lt hzz) _ _ _ Hb5.o);have hz6:w2.heap.size<w6.heap.size:=d7;have z2:w6.cell? (w2,2)=some (.string a1):=cG;have z3:w6.cell? (w2,3)=some (.string a2):=cH;clear HT5 HR5 HK5 HS6)|((with_reducible refine Ad (op:=⟨none,.store 107 _ _,_,_,_,none⟩) rfl 107 _ _ rfl w 0 [.int .i64 0,a6,a6,a6,a6,a6] ?_ ?_ ?_ ?_ ?_ ?_);rfl;rfl;(first|exact ap HT6.o _|exact HT6.o);kernel_rfl;(simp[Value.oneCell']);intro w9 HS9))
     have HZ:=@Aa (w9.rangeAt w 0 [.int .i64 0,a6,a6,a6,a6,a6]) bU;refine aD (v:=.tuple #[.agg ([.int .i64 0,a6,a6,a6,a6,a6]:List Value).toArray,.bool false]) ?_ rfl ?_
     ·exact fL
     exact Dv.no HF2.o rfl br
    |some k=>
     have hcase':e=.returned (.tuple #[.agg #[k.signs,k.base,k.name],.bool true]):=hcase;subst hcase';clear hcase;have Hkk:=Aa (Hkok.o k rfl);have HF3:=@Aa (Gh st s=if td=true/\¬(st=82/\k.signs=[]/\Bv k.base vl=true)then none else some ⟨n,b,k,vl⟩) HF2.o;clear HF2 Hkok;cases td with
     |false=>
      go_wp2_with (first|((with_reducible refine Ad (op:=⟨none,.store 67 _ _,_,_,_,none⟩) rfl 67 _ _ rfl w2 2 [k.signs,k.base,k.name] ?_ ?_ ?_ ?_ ?_ ?_);rfl;rfl;(exact G7 HK5.o 2 3 aI aI);kernel_rfl;(simp[Value.oneCell']);intro w6 HS6;have HT6:=@Aa (w6.there w 0 6) (HS6.o ▸ ag HT5.o _ _ _);have HR6:=@Aa (w6.rangeAt w2 0 [(n:Int),b,k.signs,k.base,k.name,vl]) (HS6.o ▸ Cv [(n:Int),b] [a6,a6,a6] [vl] [k.signs,k.base,k.name] HR5.o rfl);have Hb6:=@Aa (Below w w w6) (HS6.o ▸ Ag _ (Nat.le_of_lt hzz) _ _ _ Hb5.o);have hz6:w2.heap.size<w6.heap.size:=d7;have z2:w6.cell? (w2,2)=k.signs:=cG;have z3:w6.cell? (w2,3)=k.base:=cH;clear HT5 HR5 HK5 HS6)|((with_reducible refine Ad (op:=⟨none,.store 107 _ _,_,_,_,none⟩) rfl 107 _ _ rfl w 0 [(n:Int),b,k.signs,k.base,k.name,vl] ?_ ?_ ?_ ?_ ?_ ?_);rfl;rfl;(first|exact ap HT6.o _|exact HT6.o);kernel_rfl;(simp[Value.oneCell']);intro w9 HS9)|((with_reducible refine wpList_load_mid (op:=⟨_,.load 107 _,_,_,_,none⟩) rfl 107 _ rfl w2 0 ?_ [(n:Int),b,k.signs,k.base,k.name,vl] _ HR6.o underlying107 ?_ ?_ ?_);rfl;rfl;kernel_rfl))
      have HZ:=@Aa (w9.rangeAt w 0 [(n:Int),b,k.signs,k.base,k.name,vl]) bU;refine aD (v:=.tuple #[.agg ([(n:Int),b,k.signs,k.base,k.name,vl]:List Value).toArray,.bool true]) ?_ rfl ?_
      ·exact gB
      exact Dv.yes (HF3.o.trans (if_neg aH)) rfl br
     |true=>
      rcases Decidable.em (st=82)with h82|h82
      ·have n82:((st.toNat:Int) != 82)=false:=Kx (c:=st) (d:=82) h82;rcases Decidable.em (k.signs=[])with hsg|hsg
       ·have hsg1:(k.signs != [])=false:=cu;have hsg2:k.signs.isEmpty=true:=cu;have hsg3:(!k.signs.isEmpty)=false:=cu;have hbl:=Qdi Hkk.o.2.1;have Hst:=Aa (fun W=>Zl k.base vl W hbl aF)
        have Hst2:=Aa (show Gh st s=if Bv k.base vl=true then some ⟨n,b,k,vl⟩else none from by
         rw[HF3.o];by_cases hh:Bv k.base vl=true
         ·rw[if_neg (by simp[h82,hsg,hh]),if_pos hh]
         rw[if_pos (by simp[hh]),if_neg hh])
        generalize Bv k.base vl=sb at Hst Hst2;clear hsg h82 hbl;go_wp2_with ((with_reducible refine Ad (op:=⟨none,.store 67 _ _,_,_,_,none⟩) rfl 67 _ _ rfl w2 2 [k.signs,k.base,k.name] ?_ ?_ ?_ ?_ ?_ ?_);rfl;rfl;(exact G7 HK5.o 2 3 aI aI);kernel_rfl;(simp[Value.oneCell']);intro w6 HS6;have HT6:=@Aa (w6.there w 0 6) (HS6.o ▸ ag HT5.o _ _ _);have HR6:=@Aa (w6.rangeAt w2 0 [(n:Int),b,k.signs,k.base,k.name,vl]) (HS6.o ▸ Cv [(n:Int),b] [a6,a6,a6] [vl] [k.signs,k.base,k.name] HR5.o rfl);have Hb6:=@Aa (Below w w w6) (HS6.o ▸ Ag _ (Nat.le_of_lt hzz) _ _ _ Hb5.o);have hz6:w2.heap.size<w6.heap.size:=d7;have z2:w6.cell? (w2,2)=k.signs:=cG;have z3:w6.cell? (w2,3)=k.base:=cH;clear HT5 HR5 HK5 HS6)
        refine(Hst.o _).mono ?_;rintro e w7 ⟨rfl,hb7⟩;have HT7:=@Aa (w7.there w 0 6) (An HT6.o aF hb7);have HR7:=@Aa (w7.rangeAt w2 0 _) (Ah HR6.o hz6 hb7);have Hb7:=Aa (Hb6.o.trans (hb7.mono Hb6.o.size));clear hb7 z2 z3;cases sb with
        |true=>
         go_wp2_with (first|((with_reducible refine Ad (op:=⟨none,.store 107 _ _,_,_,_,none⟩) rfl 107 _ _ rfl w 0 [(n:Int),b,k.signs,k.base,k.name,vl] ?_ ?_ ?_ ?_ ?_ ?_);rfl;rfl;(first|exact ap HT7.o _|exact HT7.o);kernel_rfl;(simp[Value.oneCell']);intro w9 HS9)|((with_reducible refine wpList_load_mid (op:=⟨_,.load 107 _,_,_,_,none⟩) rfl 107 _ rfl w2 0 ?_ [(n:Int),b,k.signs,k.base,k.name,vl] _ HR7.o underlying107 ?_ ?_ ?_);rfl;rfl;kernel_rfl))
         have HZ:=@Aa (w9.rangeAt w 0 [(n:Int),b,k.signs,k.base,k.name,vl]) dI;refine aD (v:=.tuple #[.agg ([(n:Int),b,k.signs,k.base,k.name,vl]:List Value).toArray,.bool true]) ?_ rfl ?_
         ·exact gB
         exact Dv.yes (Hst2.o.trans (if_pos aH)) rfl cV
        |false=>
         go_wp2_with ((with_reducible refine Ad (op:=⟨none,.store 107 _ _,_,_,_,none⟩) rfl 107 _ _ rfl w 0 [.int .i64 0,a6,a6,a6,a6,a6] ?_ ?_ ?_ ?_ ?_ ?_);rfl;rfl;(first|exact ap HT7.o _|exact HT7.o);kernel_rfl;(simp[Value.oneCell']);intro w9 HS9)
         have HZ:=@Aa (w9.rangeAt w 0 [.int .i64 0,a6,a6,a6,a6,a6]) dI;refine aD (v:=.tuple #[.agg ([.int .i64 0,a6,a6,a6,a6,a6]:List Value).toArray,.bool false]) ?_ rfl ?_
         ·exact fL
         exact Dv.no (Hst2.o.trans (if_neg aI)) rfl cV
       have hsg1:(k.signs != [])=true:=cu;have hsg2:k.signs.isEmpty=false:=cu;have hsg3:(!k.signs.isEmpty)=true:=cu;have Hw:=Aa (HF3.o.trans (if_pos ⟨rfl,fun h=>hsg h.2.1⟩));clear hsg h82;go_wp2_with (first|((with_reducible refine Ad (op:=⟨none,.store 67 _ _,_,_,_,none⟩) rfl 67 _ _ rfl w2 2 [k.signs,k.base,k.name] ?_ ?_ ?_ ?_ ?_ ?_);rfl;rfl;(exact G7 HK5.o 2 3 aI aI);kernel_rfl;(simp[Value.oneCell']);intro w6 HS6;have HT6:=@Aa (w6.there w 0 6) (HS6.o ▸ ag HT5.o _ _ _);have HR6:=@Aa (w6.rangeAt w2 0 [(n:Int),b,k.signs,k.base,k.name,vl]) (HS6.o ▸ Cv [(n:Int),b] [a6,a6,a6] [vl] [k.signs,k.base,k.name] HR5.o rfl);have Hb6:=@Aa (Below w w w6) (HS6.o ▸ Ag _ (Nat.le_of_lt hzz) _ _ _ Hb5.o);have hz6:w2.heap.size<w6.heap.size:=d7;have z2:w6.cell? (w2,2)=k.signs:=cG;have z3:w6.cell? (w2,3)=k.base:=cH;clear HT5 HR5 HK5 HS6)|((with_reducible refine Ad (op:=⟨none,.store 107 _ _,_,_,_,none⟩) rfl 107 _ _ rfl w 0 [.int .i64 0,a6,a6,a6,a6,a6] ?_ ?_ ?_ ?_ ?_ ?_);rfl;rfl;(first|exact ap HT6.o _|exact HT6.o);kernel_rfl;(simp[Value.oneCell']);intro w9 HS9))
       have HZ:=@Aa (w9.rangeAt w 0 [.int .i64 0,a6,a6,a6,a6,a6]) bU;refine aD (v:=.tuple #[.agg ([.int .i64 0,a6,a6,a6,a6,a6]:List Value).toArray,.bool false]) ?_ rfl ?_
       ·exact fL
       exact Dv.no Hw.o rfl br
      have n82:((st.toNat:Int) != 82)=true:=Nq (c:=st) (d:=82) h82;have Hw:=Aa (HF3.o.trans (if_pos ⟨rfl,fun h=>h82 h.1⟩));clear h82;go_wp2_with (first|((with_reducible refine Ad (op:=⟨none,.store 67 _ _,_,_,_,none⟩) rfl 67 _ _ rfl w2 2 [k.signs,k.base,k.name] ?_ ?_ ?_ ?_ ?_ ?_);rfl;rfl;(exact G7 HK5.o 2 3 aI aI);kernel_rfl;(simp[Value.oneCell']);intro w6 HS6;have HT6:=@Aa (w6.there w 0 6) (HS6.o ▸ ag HT5.o _ _ _);have HR6:=@Aa (w6.rangeAt w2 0 [(n:Int),b,k.signs,k.base,k.name,vl]) (HS6.o ▸ Cv [(n:Int),b] [a6,a6,a6] [vl] [k.signs,k.base,k.name] HR5.o rfl);have Hb6:=@Aa (Below w w w6) (HS6.o ▸ Ag _ (Nat.le_of_lt hzz) _ _ _ Hb5.o);have hz6:w2.heap.size<w6.heap.size:=d7;have z2:w6.cell? (w2,2)=k.signs:=cG;have z3:w6.cell? (w2,3)=k.base:=cH;clear HT5 HR5 HK5 HS6)|((with_reducible refine Ad (op:=⟨none,.store 107 _ _,_,_,_,none⟩) rfl 107 _ _ rfl w 0 [.int .i64 0,a6,a6,a6,a6,a6] ?_ ?_ ?_ ?_ ?_ ?_);rfl;rfl;(first|exact ap HT6.o _|exact HT6.o);kernel_rfl;(simp[Value.oneCell']);intro w9 HS9))
      have HZ:=@Aa (w9.rangeAt w 0 [.int .i64 0,a6,a6,a6,a6,a6]) bU;refine aD (v:=.tuple #[.agg ([.int .i64 0,a6,a6,a6,a6,a6]:List Value).toArray,.bool false]) ?_ rfl ?_
      ·exact fL
      exact Dv.no Hw.o rfl br
 have Hno:=Aa (HF.o.trans (T6 (vl:=vl) (td:=td) (st:=st) (ps:=ps) (by rw[if_neg Hst0.o];exact hlen)));have hl1:¬(ps.length:Int)=3:=aF;have hl2:((ps.length:Int) != 3)=true:=by rw[bne_iff_ne];exact hl1
 clear HF Hpl Hcells;go_wp2_with ((with_reducible refine Ad (op:=⟨none,.store 107 _ _,_,_,_,none⟩) rfl 107 _ _ rfl w 0 [.int .i64 0,a6,a6,a6,a6,a6] ?_ ?_ ?_ ?_ ?_ ?_);rfl;rfl;(first|exact ap HT.o _|exact HT.o);kernel_rfl;(simp[Value.oneCell']);intro w9 HS9)
 have HZ:=@Aa (w9.rangeAt w 0 [.int .i64 0,a6,a6,a6,a6,a6]) bh;refine aD (v:=.tuple #[.agg ([.int .i64 0,a6,a6,a6,a6,a6]:List Value).toArray,.bool false]) ?_ rfl ?_
 ·exact fL
 exact Dv.no Hno.o rfl aT
theorem Xy(st:UInt8)(hst:Dt st)(s:List UInt8)(w:World)(hs:s.length<=4000000):
  Calls prog 192 #[s,.int .u8 (st.toNat:Int)] w (Dv (Gh st s) w):=by
 by_cases h:st=69
 ·exact Qha st h s w hs
 exact Qgv st h s w hs
def Ep(o:Option Ty)(w:World)(e:Ending)(w':World):Prop:=
 (match o with
  |some t=>∃x:PT,x.ty=t/\e=.returned (.tuple #[x.ptr,.bool true])/\w.heap.size<=x.blk/\Td w' x/\∀k,x.fv.ownBlock=some k->w.heap.size<=k
  |none=>∃p:Option Addr,e=.returned (.tuple #[.pointer p,.bool false]))/\Below w w w'
theorem Ep.no{w w':World}{e:Ending}{o:Option Ty}(ho:o=none){p:Option Addr}(he:e=.returned (.tuple #[.pointer p,.bool false]))(hb:Below w w w'):Ep o w e w':=by
 rw[ho];exact⟨⟨p,he⟩,hb⟩
theorem Ep.yes{w w':World}{e:Ending}{o:Option Ty}{t:Ty}(ho:o=some t){b:Nat}{fv:Value}(he:e=.returned (.tuple #[b,.bool true]))(hwb:w.heap.size<=b)(ht:Td w' ⟨t,b,fv⟩)(hf:∀k,fv.ownBlock=some k->w.heap.size<=k)(hb:Below w w w'):Ep o w e w':=by
 rw[ho];exact⟨⟨⟨t,b,fv⟩,rfl,he,hwb,ht,hf⟩,hb⟩
theorem Tu(c:UInt8):decide (c∈([82,85,69]:List UInt8))=decide (Dt c):=by
 rw[decide_eq_decide];unfold Dt;simp
theorem Qf5(w:World):Calls prog 135 #[a6] w (Ep (Eg []) w):=by
 go_enter func135,ntmps135;go_wp2_with fail;go_ret2;exact Ep.no rfl rfl (Ar _ _)
theorem Qc3(c:UInt8)(r:List UInt8)(w:World)(hs:r.length<=3999999)(hc:¬Dt c):Calls prog 135 #[.string ⟨(c::r).toArray⟩] w (Ep (Eg (c::r)) w):=by
 have HF:=Aa (show Eg (c::r)=none by unfold Eg;simp only;rw[if_pos (.inl hc)])
 have Hc:=Aa (fun W=>(show Calls prog 190 #[.string ⟨#[82,85,69]⟩,.string ⟨#[c]⟩] W fun e w'=>e=.returned (.bool false)/\W=w' from by
  have:=Nb [82,85,69] c W;rw[Tu,aA hc]at this;exact this))
 clear hc;go_enter func135,ntmps135;go_wp2_with fail;refine(Hc.o _).mono ?_;rintro e w' ⟨rfl,rfl⟩;go_wp2_with fail;go_ret2;exact Ep.no HF.o rfl (Ar _ _)
theorem Qdw(c:UInt8)(r:List UInt8)(w:World)(hs:r.length<=3999999)(hc:Dt c)(h:(Cy 61 r).2.2=false\/At (Cy 61 r).1=false\/(Cy 61 r).2.1=[]):Calls prog 135 #[.string ⟨(c::r).toArray⟩] w (Ep (Eg (c::r)) w):=by
 have HF:=Aa (show Eg (c::r)=if (Cy 61 r).2.2=false\/At (Cy 61 r).1=false then none else(if c=82 then some ⟨c,(Cy 61 r).1,[]⟩else none)by
  unfold Eg;simp only;by_cases h1:(Cy 61 r).2.2=false\/At (Cy 61 r).1=false
  ·rw[if_pos (.inr h1),if_pos h1]
  have h2:(Cy 61 r).2.1=[]:=by
   rcases h with h|h|h
   ·exact absurd (.inl h) h1
   ·exact absurd (.inr h) h1
   exact h
  rw[if_neg (fun h3=>h3.elim (fun h3=>h3 hc) h1),if_neg h1,if_pos h2])
 have Hc:=Aa (fun W=>(show Calls prog 190 #[.string ⟨#[82,85,69]⟩,.string ⟨#[c]⟩] W fun e w'=>e=.returned (.bool true)/\W=w' from by
  have:=Nb [82,85,69] c W;rw[Tu,aB hc]at this;exact this))
 have Hl:=Aa (fun(f:(Cy 61 r).2.2=true/\(Cy 61 r).2.1=[])=>show Ym ⟨c,(Cy 61 r).1,[]⟩=c::r from by
  rcases Eu 61 r with⟨_,e⟩|⟨p,t,e1,_,e⟩
  ·rw[e]at f;cases f.1
  rw[e]at f ⊢;simp only at f;have:=f.2;subst this;rw[e1];rfl)
 have Hcut:=Aa (fun W=>Q4 r 61 W aF);have hcl:=(Ke 61 r).1;generalize Cy 61 r=q at *;obtain⟨nm,rest,told⟩:=q;simp only at hcl HF h Hl;have Hh:=Aa h;have Hc82:=Aa hc;clear hc h;go_enter func135,ntmps135;go_wp2_with fail;refine(Hc.o _).mono ?_;rintro e w' ⟨rfl,rfl⟩;go_wp2_with fail;refine(Hcut.o _).mono ?_;rintro e w1 ⟨rfl,k1,rfl⟩;unfold Qb4;cases told with
 |false=>
  go_wp2_with fail;go_ret2;exact Ep.no (HF.o.trans (if_pos aH)) rfl (below_drewN (Ar _ _) _)
 |true=>
  have Hname:=Aa (fun W=>J4 nm W aF);generalize hnb:At nm=nb at *;have Hnb:=Aa hnb;clear hnb;go_wp2_with fail;refine(Hname.o _).mono ?_;rintro e w2 ⟨rfl,hb2⟩;have Hb2:=@Aa (Below w w w2) ((below_drewN (Ar _ _) k1).trans (by simpa using hb2));clear hb2;cases nb with
  |false=>
   go_wp2_with fail;go_ret2;exact Ep.no (HF.o.trans (if_pos aH)) rfl Hb2.o
  |true=>
   obtain rfl:rest=[]:=by
    rcases Hh.o with h|h|h
    ·cases h
    ·cases h
    exact h
   have HF2:=Aa (HF.o.trans (if_neg aH));have Hl2:=Aa (Hl.o aH);have hz:=Hb2.o.size;rcases Decidable.em (c=82)with h82|h82
   ·have t1:((c.toNat:Int) == 82)=true:=Ba (d:=82) h82;have HF3:=Aa (HF2.o.trans (if_pos h82));clear h82;go_wp2_with fail;go_quiet (fail)
    go_wp2_with fail;go_ret2;refine Ep.yes HF3.o (b:=w2.heap.size) (fv:=.slice none 0 0) rfl Hb2.o.size ?_ (fun k hk=>by simp[Value.ownBlock]at hk) da;refine⟨by simp,by first|exact Qi.new _ _ _|exact Qi.belowAt (Qi.new w2 _ _) aH (by first|exact below_drewN (Ar _ _) _|exact(Ar _ _).drew),by simp,by simp,by simp,?_,none,0,rfl,by simp,rfl,ae _,fun h=>absurd h aH⟩;rw[Hl2.o];simp
   have t1:((c.toNat:Int) == 82)=false:=Ao (d:=82) h82;have HF3:=Aa (HF2.o.trans (if_neg h82));clear h82;go_wp2_with fail;go_quiet (fail)
   go_wp2_with fail;go_ret2;exact Ep.no HF3.o rfl da
def Qjc(c:UInt8)(nm:List UInt8):Option (List Fd)->Option Ty
 |some r=>some ⟨c,nm,r⟩
 |none=>none
theorem Y6{c:UInt8}{r nm rest:List UInt8}(hc:Dt c)(h:Cy 61 r=(nm,rest,true))(hn:At nm=true)(hr:rest≠[]):Eg (c::r)=Qjc c nm (Ew c (Ai 44 rest) []):=by
 unfold Eg;simp only[h];rw[if_neg (by simp[hc,hn]),if_neg hr];cases Ew c (Ai 44 rest) []<;>rfl
theorem Qae{c:UInt8}{ps:List (List UInt8)}{acc:List Fd}{k:Nat}(hk:k<ps.length):Ew c (ps.drop k) acc=(match Gh c ps[k]with|none=>none|some f=>if acc.length=8\/Fg acc f=false then none else Ew c (ps.drop (k+1)) (acc++[f])):=by
 rw[List.drop_eq_getElem_cons hk,Ew];cases Gh c ps[k]<;>rfl
theorem Qdh{acc:List Fd}{f:Fd}(h:∀g∈acc,g.name≠f.name/\g.tag<f.tag):Fg acc f=true:=J8.2 h
theorem Qaq{acc:List Fd}{f x:Fd}(hx:x∈acc)(h:f.tag<=x.tag\/x.name=f.name):Fg acc f=false:=by
 cases hh:Fg acc f with
 |false=>rfl
 |true=>
  obtain⟨h1,h2⟩:=J8.1 hh x hx;rcases h with h|h
  ·omega
  exact absurd h h1
theorem Pd(w:World)(a:Addr)(v:Value):w.grownBy (w.setCell a v) (some a.block):=
 ⟨rfl,rfl,rfl,by simp,fun k _ hk=>Go.heap_setCell_other _ _ _ _ (fun e=>hk (by rw[e]))⟩
theorem Jy{w:World}{base k n:Nat}{e:TypeId}{v:Value}{xs:List Value}(h:w.ownsRow base e k v n xs):∃A m c,v=.slice A m c:=by
 rcases h.2 with⟨rfl,_⟩|⟨g,cap,cur,rfl,_⟩
 ·exact⟨_,_,_,rfl⟩
 exact⟨_,_,_,rfl⟩
theorem Tryz.infoIf:(prog.info? 107).map (fun i=>(i.zero,i.size,i.bytes))=some (some (.agg #[.int .i64 0,a6,a6,a6,a6,a6]),6,88):=aJ
theorem Qi2(fs:List Fd):∀y∈fs.flatMap Sc,y.oneCell'=true:=by
 intro y hy;obtain⟨f,_,hf⟩:=List.mem_flatMap.1 hy;simp[Sc]at hf;rcases hf with rfl|rfl|rfl|rfl|rfl|rfl<;>rfl
end
end Go.Proofs.YtgfmljfjgohdcaaGreatDoor
