/- Texts joined. Conditions: as each theorem names them. -/
import Derived.Test.YtkgkoicedddkmaaGreatDoorC03
import Derived.Test.YtkgkoicedddkmaaGreatDoorC04
import Derived.Test.YtkgkoicedddkmaaGreatDoorC18
set_option maxRecDepth 100000
set_option maxHeartbeats 32000000
set_option linter.unusedVariables false
set_option linter.unusedSimpArgs false
namespace Go.Proofs.YtkgkoicedddkmaaGreatDoor
open Go.RowKit Go.Proofs.Tryz
section
attribute [local go_sem] Qiz Qii Qib Qgw ByteArray.mk_append_mk
theorem Kp(c:UInt8)(s:List UInt8):(Qde c s).1.length<=s.length/\(Qde c s).2.1.length<=s.length:=by
 rcases Ev c s with⟨_,h⟩|⟨p,t,rfl,_,h⟩
 ·rw[h];simp
 rw[h];simp;omega
def Ml(st:UInt8)(ps:List (List UInt8))(vl:List UInt8)(td:Bool):Option Fd:=
 if st=69 then
  match J2 ps with
  |some (n,b)=>if td=true then none else some ⟨n,b,Kd.nil,vl⟩
  |none=>none
 else
  match Kw ps with
  |some (n,b,c)=>(match Co c with
   |some k=>if td=true/\¬(st=82/\k.signs=[]/\Bz k.base vl=true)then none else some ⟨n,b,k,vl⟩
   |none=>none)
  |none=>none
theorem Yj(st:UInt8)(s:List UInt8):Gp st s=Ml st (Ai 58 (Qde 61 s).1) (Qde 61 s).2.1 (Qde 61 s).2.2:=rfl
theorem Vu{st:UInt8}{ps:List (List UInt8)}{vl:List UInt8}{td:Bool}(h:ps.length≠if st=69 then 2 else 3):Ml st ps vl td=none:=by
 unfold Ml
 by_cases e:st=69
 ·rw[if_pos e]at h ⊢
  match ps,h with
  |[],_=>rfl
  |[_],_=>rfl
  |[_,_],h=>exact absurd rfl h
  |_::_::_::_,_=>rfl
 rw[if_neg e]at h ⊢
 match ps,h with
 |[],_=>rfl
 |[_],_=>rfl
 |[_,_],_=>rfl
 |[_,_,_],h=>exact absurd rfl h
 |_::_::_::_::_,_=>rfl
def Nh(a b:List UInt8)(n:Nat):Prop:=Cn a=some n/\1<=n/\n<=200/\Aw b=true
theorem St{st:UInt8}{a b:List UInt8}{r:List (List UInt8)}{vl:List UInt8}{td:Bool}(h:∀n,¬Nh a b n):Ml st (a::b::r) vl td=none:=by
 have h2:∀c,J2 (a::b::c)=none:=by
  intro c
  match c with
  |[]=>
   cases hd:Cn a with
   |none=>simp only[J2,hd]
   |some n=>simp only[J2,hd];exact if_neg fun(e:1<=n/\n<=200/\Aw b=true)=>h n ⟨hd,e.1,e.2.1,e.2.2⟩
  |_::_=>rfl
 have h3:∀c,Kw (a::b::c)=none:=by
  intro c
  match c with
  |[]=>rfl
  |[x]=>
   cases hd:Cn a with
   |none=>simp only[Kw,hd]
   |some n=>simp only[Kw,hd];exact if_neg fun(e:1<=n/\n<=200/\Aw b=true)=>h n ⟨hd,e.1,e.2.1,e.2.2⟩
  |_::_::_=>rfl
 unfold Ml
 rw[h2,h3]
 split<;>rfl
theorem Qgk{a b:List UInt8}{vl:List UInt8}{td:Bool}{n:Nat}(h:Nh a b n):Ml 69 [a,b] vl td=if td=true then none else some ⟨n,b,Kd.nil,vl⟩:=by
 obtain⟨h1,h2,h3,h4⟩:=h
 unfold Ml J2
 simp[h1,h2,h3,h4]
theorem Qfp{st:UInt8}{a b c:List UInt8}{vl:List UInt8}{td:Bool}{n:Nat}(hst:st≠69)(h:Nh a b n):Ml st [a,b,c] vl td=(match Co c with
   |some k=>if td=true/\¬(st=82/\k.signs=[]/\Bz k.base vl=true)then none else some ⟨n,b,k,vl⟩
   |none=>none):=by
 obtain⟨h1,h2,h3,h4⟩:=h
 unfold Ml Kw
 simp[h1,h2,h3,h4,hst]
theorem Qbq{k:Kd}(h:Zu k):Qhz k.base:=by
 rcases h with⟨h,_⟩|⟨h|h|h,_⟩
 ·exact .inr (.inr (.inr h))
 ·exact .inl h
 ·exact .inr (.inl h)
 exact .inr (.inr (.inl h))
theorem Qif{ps:List (List UInt8)}(h:ps.length=2):∃a b,ps=[a,b]:=by
 match ps,h with
 |[a,b],_=>exact⟨a,b,rfl⟩
theorem Qh1{ps:List (List UInt8)}(h:ps.length=3):∃a b c,ps=[a,b,c]:=by
 match ps,h with
 |[a,b,c],_=>exact⟨a,b,c,rfl⟩
theorem Sy{w:World}{b o n:Nat}(h:w.there b o n)(k:Nat):(w.drewN k).there b o n:=by
 induction k generalizing w with
 |zero=>exact h
 |succ k ih=>exact ih (by simpa using h)
theorem Qfx(st:UInt8)(hst:st=69)(s:List UInt8)(w:World)(hs:s.length<=4000000):
  Calls prog 114 #[.string ⟨s.toArray⟩,.int .u8 (st.toNat:Int)] w (Dv (Gp st s) w):=by
 have HF:=Aa (Yj st s)
 have Hcut:=Aa (fun W=>Re s 61 W (by omega))
 have hcl:=(Kp 61 s).1
 have hvl:=(Kp 61 s).2
 generalize Qde 61 s=r at HF Hcut hcl hvl
 obtain⟨hd,vl,td⟩:=r
 simp only at hcl hvl HF
 have Hsp:=Aa (fun W=>Sh hd 58 W (by omega))
 have hne:=Dm 58 hd
 have Hpl:=Aa (Ak 58 hd)
 generalize Ai 58 hd=ps at HF Hsp hne Hpl
 have e69:((st.toNat:Int) == 69)=true:=Be hst
 have n69:((st.toNat:Int) != 69)=false:=Mh hst
 have Hst0:=Aa hst
 clear hst
 go_enter func114,ntmps114
 go_wp2_with fail
 refine(Hcut.o _).mono ?_
 rintro e w1 ⟨rfl,k1,rfl⟩
 unfold Zz
 go_wp2_with fail
 refine(Hsp.o _).mono ?_
 rintro e w2 ⟨v,rfl,ho,hb⟩
 obtain⟨g,c,rfl,hg1,hg2,hcells⟩:=Mw ho hne
 have hzz:w.heap.size<w2.heap.size:=by have:=hb.size;simp at this;omega
 have HT:=Aa (show w2.there w.heap.size 0 6 from Al (Sy (Cc w [.int .i64 0,.string ⟨#[]⟩,.string ⟨#[]⟩,.string ⟨#[]⟩,.string ⟨#[]⟩,.string ⟨#[]⟩] 124) k1) (by simp) hb)
 have Hb:=Aa (show Below w.heap.size w w2 from(below_drewN ((Aq w.heap.size w).alloc (Ap _) _) k1).trans (hb.mono (by simp)))
 have Hcells:=Aa hcells
 clear hb ho hcells hne
 by_cases hlen:ps.length=2
 ·obtain⟨a,b,rfl⟩:=Qif hlen
  have c0:=Hcells.o 0 (by simp)
  have c1:=Hcells.o 1 (by simp)
  simp at c0 c1
  have la:a.length<=4000000:=by have:=Hpl.o a (by simp);omega
  have lb:b.length<=4000000:=by have:=Hpl.o b (by simp);omega
  clear Hpl Hcells hlen
  have hpn:=fun W=>(show Calls prog 105 #[.string ⟨a.toArray⟩,.int .i64 200] W fun e w'=>e=.returned (pnV a 200)/\W=w' from Gk a 200 W (by omega) (by decide))
  have Hhead:=Aa (show ∀n,Nh a b n↔Cn a=some n/\1<=n/\n<=200/\Aw b=true from fun n=>Iff.rfl)
  have Hno:=Aa (fun(h:∀n,¬Nh a b n)=>HF.o.trans (St h))
  generalize hda:Cn a=od at *
  have Hda:=Aa hda
  clear hda
  cases od with
  |none=>
   have Hpn:=Aa (fun W=>(Ql (m:=200) Hda.o) ▸ hpn W)
   clear hpn
   go_wp2_with fail
   refine(Hpn.o _).mono ?_
   rintro e w3 ⟨rfl,rfl⟩
   go_wp2_with ((with_reducible refine Ad (op:=⟨none,.store 124 _ _,_,_,_,none⟩) rfl 124 _ _ rfl w.heap.size 0 [.int .i64 0,.string ⟨#[]⟩,.string ⟨#[]⟩,.string ⟨#[]⟩,.string ⟨#[]⟩,.string ⟨#[]⟩] ?_ ?_ ?_ ?_ ?_ ?_);rfl;rfl;(first|exact World.there_alloc HT.o _|exact HT.o);kernel_rfl;(simp[Value.oneCell']);intro w9 HS9)
   have HZ:=Aa (show w9.rangeAt w.heap.size 0 [.int .i64 0,.string ⟨#[]⟩,.string ⟨#[]⟩,.string ⟨#[]⟩,.string ⟨#[]⟩,.string ⟨#[]⟩]from by rw[HS9.o];exact World.rangeAt_setCells_same _ _ _ _ (by first|exact World.there_alloc HT.o _|exact HT.o))
   refine bodyPost_ret (v:=.tuple #[.agg ([.int .i64 0,.string ⟨#[]⟩,.string ⟨#[]⟩,.string ⟨#[]⟩,.string ⟨#[]⟩,.string ⟨#[]⟩]:List Value).toArray,.bool false]) ?_ rfl ?_
   ·exact Ao results114 _ _ w.heap.size [.int .i64 0,.string ⟨#[]⟩,.string ⟨#[]⟩,.string ⟨#[]⟩,.string ⟨#[]⟩,.string ⟨#[]⟩] _ _ rfl rfl HZ.o underlying124 rfl (by kernel_rfl)
   exact Dv.no (Hno.o (fun n h=>by have:=((Hhead.o n).1 h).1;cases this)) rfl (by rw[HS9.o];refine Ag _ (Ap _) _ _ _ ?_;first|with_reducible exact Hb.o|exact Hb.o.alloc Hb.o.size _)
  |some n=>
   have Hpn:=Aa (fun W=>(Tc (m:=200) Hda.o) ▸ hpn W)
   clear hpn
   have hn9:n<=999999:=(Ca.1 Hda.o).1
   rcases Nat.lt_or_ge 200 n with h200|h200
   ·have Hdec:=Aa (show decide (n<=200)=false by simp;omega)
    rw[Hdec.o]at Hpn
    go_wp2_with fail
    refine(Hpn.o _).mono ?_
    rintro e w3 ⟨rfl,rfl⟩
    go_wp2_with ((with_reducible refine Ad (op:=⟨none,.store 124 _ _,_,_,_,none⟩) rfl 124 _ _ rfl w.heap.size 0 [.int .i64 0,.string ⟨#[]⟩,.string ⟨#[]⟩,.string ⟨#[]⟩,.string ⟨#[]⟩,.string ⟨#[]⟩] ?_ ?_ ?_ ?_ ?_ ?_);rfl;rfl;(first|exact World.there_alloc HT.o _|exact HT.o);kernel_rfl;(simp[Value.oneCell']);intro w9 HS9)
    have HZ:=Aa (show w9.rangeAt w.heap.size 0 [.int .i64 0,.string ⟨#[]⟩,.string ⟨#[]⟩,.string ⟨#[]⟩,.string ⟨#[]⟩,.string ⟨#[]⟩]from by rw[HS9.o];exact World.rangeAt_setCells_same _ _ _ _ (by first|exact World.there_alloc HT.o _|exact HT.o))
    refine bodyPost_ret (v:=.tuple #[.agg ([.int .i64 0,.string ⟨#[]⟩,.string ⟨#[]⟩,.string ⟨#[]⟩,.string ⟨#[]⟩,.string ⟨#[]⟩]:List Value).toArray,.bool false]) ?_ rfl ?_
    ·exact Ao results114 _ _ w.heap.size [.int .i64 0,.string ⟨#[]⟩,.string ⟨#[]⟩,.string ⟨#[]⟩,.string ⟨#[]⟩,.string ⟨#[]⟩] _ _ rfl rfl HZ.o underlying124 rfl (by kernel_rfl)
    exact Dv.no (Hno.o (fun m h=>by have h':=(Hhead.o m).1 h;have:=h'.1;cases this;omega)) rfl (by rw[HS9.o];refine Ag _ (Ap _) _ _ _ ?_;first|with_reducible exact Hb.o|exact Hb.o.alloc Hb.o.size _)
   have Hdec:=Aa (show decide (n<=200)=true by simp;omega)
   rw[Hdec.o]at Hpn
   rcases Nat.eq_zero_or_pos n with h0|h0
   ·subst h0
    go_wp2_with fail
    refine(Hpn.o _).mono ?_
    rintro e w3 ⟨rfl,rfl⟩
    go_wp2_with ((with_reducible refine Ad (op:=⟨none,.store 124 _ _,_,_,_,none⟩) rfl 124 _ _ rfl w.heap.size 0 [.int .i64 0,.string ⟨#[]⟩,.string ⟨#[]⟩,.string ⟨#[]⟩,.string ⟨#[]⟩,.string ⟨#[]⟩] ?_ ?_ ?_ ?_ ?_ ?_);rfl;rfl;(first|exact World.there_alloc HT.o _|exact HT.o);kernel_rfl;(simp[Value.oneCell']);intro w9 HS9)
    have HZ:=Aa (show w9.rangeAt w.heap.size 0 [.int .i64 0,.string ⟨#[]⟩,.string ⟨#[]⟩,.string ⟨#[]⟩,.string ⟨#[]⟩,.string ⟨#[]⟩]from by rw[HS9.o];exact World.rangeAt_setCells_same _ _ _ _ (by first|exact World.there_alloc HT.o _|exact HT.o))
    refine bodyPost_ret (v:=.tuple #[.agg ([.int .i64 0,.string ⟨#[]⟩,.string ⟨#[]⟩,.string ⟨#[]⟩,.string ⟨#[]⟩,.string ⟨#[]⟩]:List Value).toArray,.bool false]) ?_ rfl ?_
    ·exact Ao results114 _ _ w.heap.size [.int .i64 0,.string ⟨#[]⟩,.string ⟨#[]⟩,.string ⟨#[]⟩,.string ⟨#[]⟩,.string ⟨#[]⟩] _ _ rfl rfl HZ.o underlying124 rfl (by kernel_rfl)
    exact Dv.no (Hno.o (fun m h=>by have h':=(Hhead.o m).1 h;have:=h'.1;cases this;omega)) rfl (by rw[HS9.o];refine Ag _ (Ap _) _ _ _ ?_;first|with_reducible exact Hb.o|exact Hb.o.alloc Hb.o.size _)
   have hlt1:decide ((n:Int)<1)=false:=by rw[decide_eq_false_iff_not];omega
   have Hname:=Aa (fun W=>Ke b W (by omega))
   generalize hnb:Aw b=nb at *
   have Hnb:=Aa hnb
   clear hnb
   go_wp2_with fail
   refine(Hpn.o _).mono ?_
   rintro e w3 ⟨rfl,rfl⟩
   go_wp2_with fail
   refine(Hname.o _).mono ?_
   rintro e w4 ⟨rfl,hb4⟩
   have hz4:w2.heap.size<w4.heap.size:=by have:=hb4.size;simp at this;omega
   have HT4:=Aa (show w4.there w.heap.size 0 6 from Al (World.there_alloc HT.o _) (by simp;omega) hb4)
   have HR4:=Aa (show w4.rangeAt w2.heap.size 0 [.int .i64 (n:Int),.string ⟨b.toArray⟩,.string ⟨#[]⟩,.string ⟨#[]⟩,.string ⟨#[]⟩,.string ⟨vl.toArray⟩]from Aj (Bw w2 _ _) (by simp) hb4)
   have HK4:=Aa (show w4.there w2.heap.size 0 6 from Al (Cc w2 [.int .i64 (n:Int),.string ⟨b.toArray⟩,.string ⟨#[]⟩,.string ⟨#[]⟩,.string ⟨#[]⟩,.string ⟨vl.toArray⟩] _) (by simp) hb4)
   have Hb4:=Aa (show Below w.heap.size w w4 from(Hb.o.alloc Hb.o.size _).trans (hb4.mono (by simp;omega)))
   clear hb4
   cases nb with
   |false=>
    go_wp2_with ((with_reducible refine Ad (op:=⟨none,.store 124 _ _,_,_,_,none⟩) rfl 124 _ _ rfl w.heap.size 0 [.int .i64 0,.string ⟨#[]⟩,.string ⟨#[]⟩,.string ⟨#[]⟩,.string ⟨#[]⟩,.string ⟨#[]⟩] ?_ ?_ ?_ ?_ ?_ ?_);rfl;rfl;(first|exact World.there_alloc HT4.o _|exact HT4.o);kernel_rfl;(simp[Value.oneCell']);intro w9 HS9)
    have HZ:=Aa (show w9.rangeAt w.heap.size 0 [.int .i64 0,.string ⟨#[]⟩,.string ⟨#[]⟩,.string ⟨#[]⟩,.string ⟨#[]⟩,.string ⟨#[]⟩]from by rw[HS9.o];exact World.rangeAt_setCells_same _ _ _ _ (by first|exact World.there_alloc HT4.o _|exact HT4.o))
    refine bodyPost_ret (v:=.tuple #[.agg ([.int .i64 0,.string ⟨#[]⟩,.string ⟨#[]⟩,.string ⟨#[]⟩,.string ⟨#[]⟩,.string ⟨#[]⟩]:List Value).toArray,.bool false]) ?_ rfl ?_
    ·exact Ao results114 _ _ w.heap.size [.int .i64 0,.string ⟨#[]⟩,.string ⟨#[]⟩,.string ⟨#[]⟩,.string ⟨#[]⟩,.string ⟨#[]⟩] _ _ rfl rfl HZ.o underlying124 rfl (by kernel_rfl)
    exact Dv.no (Hno.o (fun m h=>by have:=((Hhead.o m).1 h).2.2.2;cases this)) rfl (by rw[HS9.o];refine Ag _ (Ap _) _ _ _ ?_;first|with_reducible exact Hb4.o|exact Hb4.o.alloc Hb4.o.size _)
   |true=>
    have Hok:=Aa (show Nh a b n from(Hhead.o n).2 ⟨rfl,h0,h200,rfl⟩)
    have HF2:=Aa (HF.o.trans (show Ml st [a,b] vl td=if td=true then none else some ⟨n,b,Kd.nil,vl⟩from by rw[Hst0.o];exact Qgk Hok.o))
    clear Hno Hhead HF
    have n82:((st.toNat:Int) != 82)=true:=Pe (c:=st) (d:=82) (by rw[Hst0.o];decide)
    cases td with
    |true=>
     go_wp2_with ((with_reducible refine Ad (op:=⟨none,.store 124 _ _,_,_,_,none⟩) rfl 124 _ _ rfl w.heap.size 0 [.int .i64 0,.string ⟨#[]⟩,.string ⟨#[]⟩,.string ⟨#[]⟩,.string ⟨#[]⟩,.string ⟨#[]⟩] ?_ ?_ ?_ ?_ ?_ ?_);rfl;rfl;(first|exact World.there_alloc HT4.o _|exact HT4.o);kernel_rfl;(simp[Value.oneCell']);intro w9 HS9)
     have HZ:=Aa (show w9.rangeAt w.heap.size 0 [.int .i64 0,.string ⟨#[]⟩,.string ⟨#[]⟩,.string ⟨#[]⟩,.string ⟨#[]⟩,.string ⟨#[]⟩]from by rw[HS9.o];exact World.rangeAt_setCells_same _ _ _ _ (by first|exact World.there_alloc HT4.o _|exact HT4.o))
     refine bodyPost_ret (v:=.tuple #[.agg ([.int .i64 0,.string ⟨#[]⟩,.string ⟨#[]⟩,.string ⟨#[]⟩,.string ⟨#[]⟩,.string ⟨#[]⟩]:List Value).toArray,.bool false]) ?_ rfl ?_
     ·exact Ao results114 _ _ w.heap.size [.int .i64 0,.string ⟨#[]⟩,.string ⟨#[]⟩,.string ⟨#[]⟩,.string ⟨#[]⟩,.string ⟨#[]⟩] _ _ rfl rfl HZ.o underlying124 rfl (by kernel_rfl)
     exact Dv.no (HF2.o.trans (by simp)) rfl (by rw[HS9.o];refine Ag _ (Ap _) _ _ _ ?_;first|with_reducible exact Hb4.o|exact Hb4.o.alloc Hb4.o.size _)
    |false=>
     go_wp2_with (first|((with_reducible refine Ad (op:=⟨none,.store 124 _ _,_,_,_,none⟩) rfl 124 _ _ rfl w.heap.size 0 [.int .i64 (n:Int),.string ⟨b.toArray⟩,.string ⟨#[]⟩,.string ⟨#[]⟩,.string ⟨#[]⟩,.string ⟨vl.toArray⟩] ?_ ?_ ?_ ?_ ?_ ?_);rfl;rfl;(first|exact World.there_alloc HT4.o _|exact HT4.o);kernel_rfl;(simp[Value.oneCell']);intro w9 HS9)|((with_reducible refine wpList_load_mid (op:=⟨_,.load 124 _,_,_,_,none⟩) rfl 124 _ rfl w2.heap.size 0 ?_ [.int .i64 (n:Int),.string ⟨b.toArray⟩,.string ⟨#[]⟩,.string ⟨#[]⟩,.string ⟨#[]⟩,.string ⟨vl.toArray⟩] _ HR4.o underlying124 ?_ ?_ ?_);rfl;rfl;kernel_rfl))
     have HZ:=Aa (show w9.rangeAt w.heap.size 0 [.int .i64 (n:Int),.string ⟨b.toArray⟩,.string ⟨#[]⟩,.string ⟨#[]⟩,.string ⟨#[]⟩,.string ⟨vl.toArray⟩]from by rw[HS9.o];exact World.rangeAt_setCells_same _ _ _ _ (by first|exact World.there_alloc HT4.o _|exact HT4.o))
     refine bodyPost_ret (v:=.tuple #[.agg ([.int .i64 (n:Int),.string ⟨b.toArray⟩,.string ⟨#[]⟩,.string ⟨#[]⟩,.string ⟨#[]⟩,.string ⟨vl.toArray⟩]:List Value).toArray,.bool true]) ?_ rfl ?_
     ·exact Ao results114 _ _ w.heap.size [.int .i64 (n:Int),.string ⟨b.toArray⟩,.string ⟨#[]⟩,.string ⟨#[]⟩,.string ⟨#[]⟩,.string ⟨vl.toArray⟩] _ _ rfl rfl HZ.o underlying124 rfl (by kernel_rfl)
     exact Dv.yes (HF2.o.trans (if_neg (fun h=>by cases h))) rfl (by rw[HS9.o];refine Ag _ (Ap _) _ _ _ ?_;first|with_reducible exact Hb4.o|exact Hb4.o.alloc Hb4.o.size _)
 have Hno:=Aa (HF.o.trans (Vu (vl:=vl) (td:=td) (st:=st) (ps:=ps) (by rw[if_pos Hst0.o];exact hlen)))
 have hl1:¬(ps.length:Int)=2:=by omega
 have hl2:((ps.length:Int) != 2)=true:=by rw[bne_iff_ne];exact hl1
 clear HF Hpl Hcells
 go_wp2_with ((with_reducible refine Ad (op:=⟨none,.store 124 _ _,_,_,_,none⟩) rfl 124 _ _ rfl w.heap.size 0 [.int .i64 0,.string ⟨#[]⟩,.string ⟨#[]⟩,.string ⟨#[]⟩,.string ⟨#[]⟩,.string ⟨#[]⟩] ?_ ?_ ?_ ?_ ?_ ?_);rfl;rfl;(first|exact World.there_alloc HT.o _|exact HT.o);kernel_rfl;(simp[Value.oneCell']);intro w9 HS9)
 have HZ:=Aa (show w9.rangeAt w.heap.size 0 [.int .i64 0,.string ⟨#[]⟩,.string ⟨#[]⟩,.string ⟨#[]⟩,.string ⟨#[]⟩,.string ⟨#[]⟩]from by rw[HS9.o];exact World.rangeAt_setCells_same _ _ _ _ (by first|exact World.there_alloc HT.o _|exact HT.o))
 refine bodyPost_ret (v:=.tuple #[.agg ([.int .i64 0,.string ⟨#[]⟩,.string ⟨#[]⟩,.string ⟨#[]⟩,.string ⟨#[]⟩,.string ⟨#[]⟩]:List Value).toArray,.bool false]) ?_ rfl ?_
 ·exact Ao results114 _ _ w.heap.size [.int .i64 0,.string ⟨#[]⟩,.string ⟨#[]⟩,.string ⟨#[]⟩,.string ⟨#[]⟩,.string ⟨#[]⟩] _ _ rfl rfl HZ.o underlying124 rfl (by kernel_rfl)
 exact Dv.no Hno.o rfl (by rw[HS9.o];refine Ag _ (Ap _) _ _ _ ?_;first|with_reducible exact Hb.o|exact Hb.o.alloc Hb.o.size _)
theorem Qgd(st:UInt8)(hst:st≠69)(s:List UInt8)(w:World)(hs:s.length<=4000000):
  Calls prog 114 #[.string ⟨s.toArray⟩,.int .u8 (st.toNat:Int)] w (Dv (Gp st s) w):=by
 have HF:=Aa (Yj st s)
 have Hcut:=Aa (fun W=>Re s 61 W (by omega))
 have hcl:=(Kp 61 s).1
 have hvl:=(Kp 61 s).2
 generalize Qde 61 s=r at HF Hcut hcl hvl
 obtain⟨hd,vl,td⟩:=r
 simp only at hcl hvl HF
 have Hsp:=Aa (fun W=>Sh hd 58 W (by omega))
 have hne:=Dm 58 hd
 have Hpl:=Aa (Ak 58 hd)
 generalize Ai 58 hd=ps at HF Hsp hne Hpl
 have e69:((st.toNat:Int) == 69)=false:=Am hst
 have n69:((st.toNat:Int) != 69)=true:=Pe hst
 have Hst0:=Aa hst
 clear hst
 go_enter func114,ntmps114
 go_wp2_with fail
 refine(Hcut.o _).mono ?_
 rintro e w1 ⟨rfl,k1,rfl⟩
 unfold Zz
 go_wp2_with fail
 refine(Hsp.o _).mono ?_
 rintro e w2 ⟨v,rfl,ho,hb⟩
 obtain⟨g,c,rfl,hg1,hg2,hcells⟩:=Mw ho hne
 have hzz:w.heap.size<w2.heap.size:=by have:=hb.size;simp at this;omega
 have HT:=Aa (show w2.there w.heap.size 0 6 from Al (Sy (Cc w [.int .i64 0,.string ⟨#[]⟩,.string ⟨#[]⟩,.string ⟨#[]⟩,.string ⟨#[]⟩,.string ⟨#[]⟩] 124) k1) (by simp) hb)
 have Hb:=Aa (show Below w.heap.size w w2 from(below_drewN ((Aq w.heap.size w).alloc (Ap _) _) k1).trans (hb.mono (by simp)))
 have Hcells:=Aa hcells
 clear hb ho hcells hne
 by_cases hlen:ps.length=3
 ·obtain⟨a,b,d,rfl⟩:=Qh1 hlen
  have c0:=Hcells.o 0 (by simp)
  have c1:=Hcells.o 1 (by simp)
  have c2:=Hcells.o 2 (by simp)
  simp at c0 c1 c2
  have la:a.length<=4000000:=by have:=Hpl.o a (by simp);omega
  have lb:b.length<=4000000:=by have:=Hpl.o b (by simp);omega
  have ld:d.length<=4000000:=by have:=Hpl.o d (by simp);omega
  clear Hpl Hcells hlen
  have hpn:=fun W=>(show Calls prog 105 #[.string ⟨a.toArray⟩,.int .i64 200] W fun e w'=>e=.returned (pnV a 200)/\W=w' from Gk a 200 W (by omega) (by decide))
  have Hhead:=Aa (show ∀n,Nh a b n↔Cn a=some n/\1<=n/\n<=200/\Aw b=true from fun n=>Iff.rfl)
  have Hno:=Aa (fun(h:∀n,¬Nh a b n)=>HF.o.trans (St h))
  generalize hda:Cn a=od at *
  have Hda:=Aa hda
  clear hda
  cases od with
  |none=>
   have Hpn:=Aa (fun W=>(Ql (m:=200) Hda.o) ▸ hpn W)
   clear hpn
   go_wp2_with fail
   refine(Hpn.o _).mono ?_
   rintro e w3 ⟨rfl,rfl⟩
   go_wp2_with ((with_reducible refine Ad (op:=⟨none,.store 124 _ _,_,_,_,none⟩) rfl 124 _ _ rfl w.heap.size 0 [.int .i64 0,.string ⟨#[]⟩,.string ⟨#[]⟩,.string ⟨#[]⟩,.string ⟨#[]⟩,.string ⟨#[]⟩] ?_ ?_ ?_ ?_ ?_ ?_);rfl;rfl;(first|exact World.there_alloc HT.o _|exact HT.o);kernel_rfl;(simp[Value.oneCell']);intro w9 HS9)
   have HZ:=Aa (show w9.rangeAt w.heap.size 0 [.int .i64 0,.string ⟨#[]⟩,.string ⟨#[]⟩,.string ⟨#[]⟩,.string ⟨#[]⟩,.string ⟨#[]⟩]from by rw[HS9.o];exact World.rangeAt_setCells_same _ _ _ _ (by first|exact World.there_alloc HT.o _|exact HT.o))
   refine bodyPost_ret (v:=.tuple #[.agg ([.int .i64 0,.string ⟨#[]⟩,.string ⟨#[]⟩,.string ⟨#[]⟩,.string ⟨#[]⟩,.string ⟨#[]⟩]:List Value).toArray,.bool false]) ?_ rfl ?_
   ·exact Ao results114 _ _ w.heap.size [.int .i64 0,.string ⟨#[]⟩,.string ⟨#[]⟩,.string ⟨#[]⟩,.string ⟨#[]⟩,.string ⟨#[]⟩] _ _ rfl rfl HZ.o underlying124 rfl (by kernel_rfl)
   exact Dv.no (Hno.o (fun n h=>by have:=((Hhead.o n).1 h).1;cases this)) rfl (by rw[HS9.o];refine Ag _ (Ap _) _ _ _ ?_;first|with_reducible exact Hb.o|exact Hb.o.alloc Hb.o.size _)
  |some n=>
   have Hpn:=Aa (fun W=>(Tc (m:=200) Hda.o) ▸ hpn W)
   clear hpn
   have hn9:n<=999999:=(Ca.1 Hda.o).1
   rcases Nat.lt_or_ge 200 n with h200|h200
   ·have Hdec:=Aa (show decide (n<=200)=false by simp;omega)
    rw[Hdec.o]at Hpn
    go_wp2_with fail
    refine(Hpn.o _).mono ?_
    rintro e w3 ⟨rfl,rfl⟩
    go_wp2_with ((with_reducible refine Ad (op:=⟨none,.store 124 _ _,_,_,_,none⟩) rfl 124 _ _ rfl w.heap.size 0 [.int .i64 0,.string ⟨#[]⟩,.string ⟨#[]⟩,.string ⟨#[]⟩,.string ⟨#[]⟩,.string ⟨#[]⟩] ?_ ?_ ?_ ?_ ?_ ?_);rfl;rfl;(first|exact World.there_alloc HT.o _|exact HT.o);kernel_rfl;(simp[Value.oneCell']);intro w9 HS9)
    have HZ:=Aa (show w9.rangeAt w.heap.size 0 [.int .i64 0,.string ⟨#[]⟩,.string ⟨#[]⟩,.string ⟨#[]⟩,.string ⟨#[]⟩,.string ⟨#[]⟩]from by rw[HS9.o];exact World.rangeAt_setCells_same _ _ _ _ (by first|exact World.there_alloc HT.o _|exact HT.o))
    refine bodyPost_ret (v:=.tuple #[.agg ([.int .i64 0,.string ⟨#[]⟩,.string ⟨#[]⟩,.string ⟨#[]⟩,.string ⟨#[]⟩,.string ⟨#[]⟩]:List Value).toArray,.bool false]) ?_ rfl ?_
    ·exact Ao results114 _ _ w.heap.size [.int .i64 0,.string ⟨#[]⟩,.string ⟨#[]⟩,.string ⟨#[]⟩,.string ⟨#[]⟩,.string ⟨#[]⟩] _ _ rfl rfl HZ.o underlying124 rfl (by kernel_rfl)
    exact Dv.no (Hno.o (fun m h=>by have h':=(Hhead.o m).1 h;have:=h'.1;cases this;omega)) rfl (by rw[HS9.o];refine Ag _ (Ap _) _ _ _ ?_;first|with_reducible exact Hb.o|exact Hb.o.alloc Hb.o.size _)
   have Hdec:=Aa (show decide (n<=200)=true by simp;omega)
   rw[Hdec.o]at Hpn
   rcases Nat.eq_zero_or_pos n with h0|h0
   ·subst h0
    go_wp2_with fail
    refine(Hpn.o _).mono ?_
    rintro e w3 ⟨rfl,rfl⟩
    go_wp2_with ((with_reducible refine Ad (op:=⟨none,.store 124 _ _,_,_,_,none⟩) rfl 124 _ _ rfl w.heap.size 0 [.int .i64 0,.string ⟨#[]⟩,.string ⟨#[]⟩,.string ⟨#[]⟩,.string ⟨#[]⟩,.string ⟨#[]⟩] ?_ ?_ ?_ ?_ ?_ ?_);rfl;rfl;(first|exact World.there_alloc HT.o _|exact HT.o);kernel_rfl;(simp[Value.oneCell']);intro w9 HS9)
    have HZ:=Aa (show w9.rangeAt w.heap.size 0 [.int .i64 0,.string ⟨#[]⟩,.string ⟨#[]⟩,.string ⟨#[]⟩,.string ⟨#[]⟩,.string ⟨#[]⟩]from by rw[HS9.o];exact World.rangeAt_setCells_same _ _ _ _ (by first|exact World.there_alloc HT.o _|exact HT.o))
    refine bodyPost_ret (v:=.tuple #[.agg ([.int .i64 0,.string ⟨#[]⟩,.string ⟨#[]⟩,.string ⟨#[]⟩,.string ⟨#[]⟩,.string ⟨#[]⟩]:List Value).toArray,.bool false]) ?_ rfl ?_
    ·exact Ao results114 _ _ w.heap.size [.int .i64 0,.string ⟨#[]⟩,.string ⟨#[]⟩,.string ⟨#[]⟩,.string ⟨#[]⟩,.string ⟨#[]⟩] _ _ rfl rfl HZ.o underlying124 rfl (by kernel_rfl)
    exact Dv.no (Hno.o (fun m h=>by have h':=(Hhead.o m).1 h;have:=h'.1;cases this;omega)) rfl (by rw[HS9.o];refine Ag _ (Ap _) _ _ _ ?_;first|with_reducible exact Hb.o|exact Hb.o.alloc Hb.o.size _)
   have hlt1:decide ((n:Int)<1)=false:=by rw[decide_eq_false_iff_not];omega
   have Hname:=Aa (fun W=>Ke b W (by omega))
   generalize hnb:Aw b=nb at *
   have Hnb:=Aa hnb
   clear hnb
   go_wp2_with fail
   refine(Hpn.o _).mono ?_
   rintro e w3 ⟨rfl,rfl⟩
   go_wp2_with fail
   refine(Hname.o _).mono ?_
   rintro e w4 ⟨rfl,hb4⟩
   have hz4:w2.heap.size<w4.heap.size:=by have:=hb4.size;simp at this;omega
   have HT4:=Aa (show w4.there w.heap.size 0 6 from Al (World.there_alloc HT.o _) (by simp;omega) hb4)
   have HR4:=Aa (show w4.rangeAt w2.heap.size 0 [.int .i64 (n:Int),.string ⟨b.toArray⟩,.string ⟨#[]⟩,.string ⟨#[]⟩,.string ⟨#[]⟩,.string ⟨vl.toArray⟩]from Aj (Bw w2 _ _) (by simp) hb4)
   have HK4:=Aa (show w4.there w2.heap.size 0 6 from Al (Cc w2 [.int .i64 (n:Int),.string ⟨b.toArray⟩,.string ⟨#[]⟩,.string ⟨#[]⟩,.string ⟨#[]⟩,.string ⟨vl.toArray⟩] _) (by simp) hb4)
   have Hb4:=Aa (show Below w.heap.size w w4 from(Hb.o.alloc Hb.o.size _).trans (hb4.mono (by simp;omega)))
   have c2x:w4.cell? ⟨g,2,none⟩=some (.string ⟨d.toArray⟩):=(hb4.cell (p:=⟨g,2,none⟩) (by simp;omega)).trans (by rw[World.cell?_alloc_old _ _ _ (by simp;omega)];exact c2)
   clear hb4
   cases nb with
   |false=>
    go_wp2_with ((with_reducible refine Ad (op:=⟨none,.store 124 _ _,_,_,_,none⟩) rfl 124 _ _ rfl w.heap.size 0 [.int .i64 0,.string ⟨#[]⟩,.string ⟨#[]⟩,.string ⟨#[]⟩,.string ⟨#[]⟩,.string ⟨#[]⟩] ?_ ?_ ?_ ?_ ?_ ?_);rfl;rfl;(first|exact World.there_alloc HT4.o _|exact HT4.o);kernel_rfl;(simp[Value.oneCell']);intro w9 HS9)
    have HZ:=Aa (show w9.rangeAt w.heap.size 0 [.int .i64 0,.string ⟨#[]⟩,.string ⟨#[]⟩,.string ⟨#[]⟩,.string ⟨#[]⟩,.string ⟨#[]⟩]from by rw[HS9.o];exact World.rangeAt_setCells_same _ _ _ _ (by first|exact World.there_alloc HT4.o _|exact HT4.o))
    refine bodyPost_ret (v:=.tuple #[.agg ([.int .i64 0,.string ⟨#[]⟩,.string ⟨#[]⟩,.string ⟨#[]⟩,.string ⟨#[]⟩,.string ⟨#[]⟩]:List Value).toArray,.bool false]) ?_ rfl ?_
    ·exact Ao results114 _ _ w.heap.size [.int .i64 0,.string ⟨#[]⟩,.string ⟨#[]⟩,.string ⟨#[]⟩,.string ⟨#[]⟩,.string ⟨#[]⟩] _ _ rfl rfl HZ.o underlying124 rfl (by kernel_rfl)
    exact Dv.no (Hno.o (fun m h=>by have:=((Hhead.o m).1 h).2.2.2;cases this)) rfl (by rw[HS9.o];refine Ag _ (Ap _) _ _ _ ?_;first|with_reducible exact Hb4.o|exact Hb4.o.alloc Hb4.o.size _)
   |true=>
    have Hok:=Aa (show Nh a b n from(Hhead.o n).2 ⟨rfl,h0,h200,rfl⟩)
    have HF2:=Aa (HF.o.trans (Qfp (c:=d) (vl:=vl) (td:=td) Hst0.o Hok.o))
    clear Hno Hhead HF
    have Hkd:=Aa (fun W=>Q7 d W ld)
    have Hkok:=Aa (fun k (h:Co d=some k)=>(Em.1 h).1)
    generalize Co d=ok at HF2 Hkd Hkok
    go_wp2_with fail
    refine(Hkd.o _).mono ?_
    rintro e w5 ⟨hcase,hb5⟩
    have HT5:=Aa (show w5.there w.heap.size 0 6 from Al HT4.o (by omega) hb5)
    have HR5:=Aa (show w5.rangeAt w2.heap.size 0 _ from Aj HR4.o hz4 hb5)
    have HK5:=Aa (show w5.there w2.heap.size 0 6 from Al HK4.o hz4 hb5)
    have Hb5:=Aa (Hb4.o.trans (hb5.mono Hb4.o.size))
    have hz5:w2.heap.size<w5.heap.size:=Nat.lt_of_lt_of_le hz4 hb5.size
    clear hb5
    cases ok with
    |none=>
     obtain⟨a1,a2,a3,rfl⟩:=hcase
     go_wp2_with (first|((with_reducible refine Ad (op:=⟨none,.store 62 _ _,_,_,_,none⟩) rfl 62 _ _ rfl w2.heap.size 2 [.string a1,.string a2,.string a3] ?_ ?_ ?_ ?_ ?_ ?_);rfl;rfl;(exact J7 HK5.o 2 3 (by decide) (by decide));kernel_rfl;(simp[Value.oneCell']);intro w6 HS6;have HT6:=Aa (show w6.there w.heap.size 0 6 from HS6.o ▸ World.there_setCells HT5.o _ _ _);have HR6:=Aa (show w6.rangeAt w2.heap.size 0 [.int .i64 (n:Int),.string ⟨b.toArray⟩,.string a1,.string a2,.string a3,.string ⟨vl.toArray⟩]from HS6.o ▸ C7 [.int .i64 (n:Int),.string ⟨b.toArray⟩] [.string ⟨#[]⟩,.string ⟨#[]⟩,.string ⟨#[]⟩] [.string ⟨vl.toArray⟩] [.string a1,.string a2,.string a3] HR5.o rfl);have Hb6:=Aa (show Below w.heap.size w w6 from HS6.o ▸ Ag _ (Nat.le_of_lt hzz) _ _ _ Hb5.o);have hz6:w2.heap.size<w6.heap.size:=(by rw[HS6.o,B6];exact hz5);have z2:w6.cell? ⟨w2.heap.size,2,none⟩=some (.string a1):=(by simpa using Ab HR6.o 2 rfl);have z3:w6.cell? ⟨w2.heap.size,3,none⟩=some (.string a2):=(by simpa using Ab HR6.o 3 rfl);clear HT5 HR5 HK5 HS6)|((with_reducible refine Ad (op:=⟨none,.store 124 _ _,_,_,_,none⟩) rfl 124 _ _ rfl w.heap.size 0 [.int .i64 0,.string ⟨#[]⟩,.string ⟨#[]⟩,.string ⟨#[]⟩,.string ⟨#[]⟩,.string ⟨#[]⟩] ?_ ?_ ?_ ?_ ?_ ?_);rfl;rfl;(first|exact World.there_alloc HT6.o _|exact HT6.o);kernel_rfl;(simp[Value.oneCell']);intro w9 HS9))
     have HZ:=Aa (show w9.rangeAt w.heap.size 0 [.int .i64 0,.string ⟨#[]⟩,.string ⟨#[]⟩,.string ⟨#[]⟩,.string ⟨#[]⟩,.string ⟨#[]⟩]from by rw[HS9.o];exact World.rangeAt_setCells_same _ _ _ _ (by first|exact World.there_alloc HT6.o _|exact HT6.o))
     refine bodyPost_ret (v:=.tuple #[.agg ([.int .i64 0,.string ⟨#[]⟩,.string ⟨#[]⟩,.string ⟨#[]⟩,.string ⟨#[]⟩,.string ⟨#[]⟩]:List Value).toArray,.bool false]) ?_ rfl ?_
     ·exact Ao results114 _ _ w.heap.size [.int .i64 0,.string ⟨#[]⟩,.string ⟨#[]⟩,.string ⟨#[]⟩,.string ⟨#[]⟩,.string ⟨#[]⟩] _ _ rfl rfl HZ.o underlying124 rfl (by kernel_rfl)
     exact Dv.no HF2.o rfl (by rw[HS9.o];refine Ag _ (Ap _) _ _ _ ?_;first|with_reducible exact Hb6.o|exact Hb6.o.alloc Hb6.o.size _)
    |some k=>
     have hcase':e=.returned (.tuple #[.agg #[.string ⟨k.signs.toArray⟩,.string ⟨k.base.toArray⟩,.string ⟨k.name.toArray⟩],.bool true]):=hcase
     subst hcase'
     clear hcase
     have Hkk:=Aa (Hkok.o k rfl)
     have HF3:=Aa (show Gp st s=if td=true/\¬(st=82/\k.signs=[]/\Bz k.base vl=true)then none else some ⟨n,b,k,vl⟩from HF2.o)
     clear HF2 Hkok
     cases td with
     |false=>
      go_wp2_with (first|((with_reducible refine Ad (op:=⟨none,.store 62 _ _,_,_,_,none⟩) rfl 62 _ _ rfl w2.heap.size 2 [.string ⟨k.signs.toArray⟩,.string ⟨k.base.toArray⟩,.string ⟨k.name.toArray⟩] ?_ ?_ ?_ ?_ ?_ ?_);rfl;rfl;(exact J7 HK5.o 2 3 (by decide) (by decide));kernel_rfl;(simp[Value.oneCell']);intro w6 HS6;have HT6:=Aa (show w6.there w.heap.size 0 6 from HS6.o ▸ World.there_setCells HT5.o _ _ _);have HR6:=Aa (show w6.rangeAt w2.heap.size 0 [.int .i64 (n:Int),.string ⟨b.toArray⟩,.string ⟨k.signs.toArray⟩,.string ⟨k.base.toArray⟩,.string ⟨k.name.toArray⟩,.string ⟨vl.toArray⟩]from HS6.o ▸ C7 [.int .i64 (n:Int),.string ⟨b.toArray⟩] [.string ⟨#[]⟩,.string ⟨#[]⟩,.string ⟨#[]⟩] [.string ⟨vl.toArray⟩] [.string ⟨k.signs.toArray⟩,.string ⟨k.base.toArray⟩,.string ⟨k.name.toArray⟩] HR5.o rfl);have Hb6:=Aa (show Below w.heap.size w w6 from HS6.o ▸ Ag _ (Nat.le_of_lt hzz) _ _ _ Hb5.o);have hz6:w2.heap.size<w6.heap.size:=(by rw[HS6.o,B6];exact hz5);have z2:w6.cell? ⟨w2.heap.size,2,none⟩=some (.string ⟨k.signs.toArray⟩):=(by simpa using Ab HR6.o 2 rfl);have z3:w6.cell? ⟨w2.heap.size,3,none⟩=some (.string ⟨k.base.toArray⟩):=(by simpa using Ab HR6.o 3 rfl);clear HT5 HR5 HK5 HS6)|((with_reducible refine Ad (op:=⟨none,.store 124 _ _,_,_,_,none⟩) rfl 124 _ _ rfl w.heap.size 0 [.int .i64 (n:Int),.string ⟨b.toArray⟩,.string ⟨k.signs.toArray⟩,.string ⟨k.base.toArray⟩,.string ⟨k.name.toArray⟩,.string ⟨vl.toArray⟩] ?_ ?_ ?_ ?_ ?_ ?_);rfl;rfl;(first|exact World.there_alloc HT6.o _|exact HT6.o);kernel_rfl;(simp[Value.oneCell']);intro w9 HS9)|((with_reducible refine wpList_load_mid (op:=⟨_,.load 124 _,_,_,_,none⟩) rfl 124 _ rfl w2.heap.size 0 ?_ [.int .i64 (n:Int),.string ⟨b.toArray⟩,.string ⟨k.signs.toArray⟩,.string ⟨k.base.toArray⟩,.string ⟨k.name.toArray⟩,.string ⟨vl.toArray⟩] _ HR6.o underlying124 ?_ ?_ ?_);rfl;rfl;kernel_rfl))
      have HZ:=Aa (show w9.rangeAt w.heap.size 0 [.int .i64 (n:Int),.string ⟨b.toArray⟩,.string ⟨k.signs.toArray⟩,.string ⟨k.base.toArray⟩,.string ⟨k.name.toArray⟩,.string ⟨vl.toArray⟩]from by rw[HS9.o];exact World.rangeAt_setCells_same _ _ _ _ (by first|exact World.there_alloc HT6.o _|exact HT6.o))
      refine bodyPost_ret (v:=.tuple #[.agg ([.int .i64 (n:Int),.string ⟨b.toArray⟩,.string ⟨k.signs.toArray⟩,.string ⟨k.base.toArray⟩,.string ⟨k.name.toArray⟩,.string ⟨vl.toArray⟩]:List Value).toArray,.bool true]) ?_ rfl ?_
      ·exact Ao results114 _ _ w.heap.size [.int .i64 (n:Int),.string ⟨b.toArray⟩,.string ⟨k.signs.toArray⟩,.string ⟨k.base.toArray⟩,.string ⟨k.name.toArray⟩,.string ⟨vl.toArray⟩] _ _ rfl rfl HZ.o underlying124 rfl (by kernel_rfl)
      exact Dv.yes (HF3.o.trans (if_neg (by simp))) rfl (by rw[HS9.o];refine Ag _ (Ap _) _ _ _ ?_;first|with_reducible exact Hb6.o|exact Hb6.o.alloc Hb6.o.size _)
     |true=>
      rcases Decidable.em (st=82)with h82|h82
      ·have n82:((st.toNat:Int) != 82)=false:=Mh (c:=st) (d:=82) h82
       rcases Decidable.em (k.signs=[])with hsg|hsg
       ·have hsg1:(k.signs != [])=false:=by simp[hsg]
        have hsg2:k.signs.isEmpty=true:=by simp[hsg]
        have hsg3:(!k.signs.isEmpty)=false:=by simp[hsg]
        have hbl:=Qbq Hkk.o.2.1
        have Hst:=Aa (fun W=>Zv k.base vl W hbl (by omega))
        have Hst2:=Aa (show Gp st s=if Bz k.base vl=true then some ⟨n,b,k,vl⟩else none from by
         rw[HF3.o]
         by_cases hh:Bz k.base vl=true
         ·rw[if_neg (by simp[h82,hsg,hh]),if_pos hh]
         rw[if_pos (by simp[hh]),if_neg hh])
        generalize Bz k.base vl=sb at Hst Hst2
        clear hsg h82 hbl
        go_wp2_with ((with_reducible refine Ad (op:=⟨none,.store 62 _ _,_,_,_,none⟩) rfl 62 _ _ rfl w2.heap.size 2 [.string ⟨k.signs.toArray⟩,.string ⟨k.base.toArray⟩,.string ⟨k.name.toArray⟩] ?_ ?_ ?_ ?_ ?_ ?_);rfl;rfl;(exact J7 HK5.o 2 3 (by decide) (by decide));kernel_rfl;(simp[Value.oneCell']);intro w6 HS6;have HT6:=Aa (show w6.there w.heap.size 0 6 from HS6.o ▸ World.there_setCells HT5.o _ _ _);have HR6:=Aa (show w6.rangeAt w2.heap.size 0 [.int .i64 (n:Int),.string ⟨b.toArray⟩,.string ⟨k.signs.toArray⟩,.string ⟨k.base.toArray⟩,.string ⟨k.name.toArray⟩,.string ⟨vl.toArray⟩]from HS6.o ▸ C7 [.int .i64 (n:Int),.string ⟨b.toArray⟩] [.string ⟨#[]⟩,.string ⟨#[]⟩,.string ⟨#[]⟩] [.string ⟨vl.toArray⟩] [.string ⟨k.signs.toArray⟩,.string ⟨k.base.toArray⟩,.string ⟨k.name.toArray⟩] HR5.o rfl);have Hb6:=Aa (show Below w.heap.size w w6 from HS6.o ▸ Ag _ (Nat.le_of_lt hzz) _ _ _ Hb5.o);have hz6:w2.heap.size<w6.heap.size:=(by rw[HS6.o,B6];exact hz5);have z2:w6.cell? ⟨w2.heap.size,2,none⟩=some (.string ⟨k.signs.toArray⟩):=(by simpa using Ab HR6.o 2 rfl);have z3:w6.cell? ⟨w2.heap.size,3,none⟩=some (.string ⟨k.base.toArray⟩):=(by simpa using Ab HR6.o 3 rfl);clear HT5 HR5 HK5 HS6)
        refine(Hst.o _).mono ?_
        rintro e w7 ⟨rfl,hb7⟩
        have HT7:=Aa (show w7.there w.heap.size 0 6 from Al HT6.o (by omega) hb7)
        have HR7:=Aa (show w7.rangeAt w2.heap.size 0 _ from Aj HR6.o hz6 hb7)
        have Hb7:=Aa (Hb6.o.trans (hb7.mono Hb6.o.size))
        clear hb7 z2 z3
        cases sb with
        |true=>
         go_wp2_with (first|((with_reducible refine Ad (op:=⟨none,.store 124 _ _,_,_,_,none⟩) rfl 124 _ _ rfl w.heap.size 0 [.int .i64 (n:Int),.string ⟨b.toArray⟩,.string ⟨k.signs.toArray⟩,.string ⟨k.base.toArray⟩,.string ⟨k.name.toArray⟩,.string ⟨vl.toArray⟩] ?_ ?_ ?_ ?_ ?_ ?_);rfl;rfl;(first|exact World.there_alloc HT7.o _|exact HT7.o);kernel_rfl;(simp[Value.oneCell']);intro w9 HS9)|((with_reducible refine wpList_load_mid (op:=⟨_,.load 124 _,_,_,_,none⟩) rfl 124 _ rfl w2.heap.size 0 ?_ [.int .i64 (n:Int),.string ⟨b.toArray⟩,.string ⟨k.signs.toArray⟩,.string ⟨k.base.toArray⟩,.string ⟨k.name.toArray⟩,.string ⟨vl.toArray⟩] _ HR7.o underlying124 ?_ ?_ ?_);rfl;rfl;kernel_rfl))
         have HZ:=Aa (show w9.rangeAt w.heap.size 0 [.int .i64 (n:Int),.string ⟨b.toArray⟩,.string ⟨k.signs.toArray⟩,.string ⟨k.base.toArray⟩,.string ⟨k.name.toArray⟩,.string ⟨vl.toArray⟩]from by rw[HS9.o];exact World.rangeAt_setCells_same _ _ _ _ (by first|exact World.there_alloc HT7.o _|exact HT7.o))
         refine bodyPost_ret (v:=.tuple #[.agg ([.int .i64 (n:Int),.string ⟨b.toArray⟩,.string ⟨k.signs.toArray⟩,.string ⟨k.base.toArray⟩,.string ⟨k.name.toArray⟩,.string ⟨vl.toArray⟩]:List Value).toArray,.bool true]) ?_ rfl ?_
         ·exact Ao results114 _ _ w.heap.size [.int .i64 (n:Int),.string ⟨b.toArray⟩,.string ⟨k.signs.toArray⟩,.string ⟨k.base.toArray⟩,.string ⟨k.name.toArray⟩,.string ⟨vl.toArray⟩] _ _ rfl rfl HZ.o underlying124 rfl (by kernel_rfl)
         exact Dv.yes (Hst2.o.trans (if_pos (by simp))) rfl (by rw[HS9.o];refine Ag _ (Ap _) _ _ _ ?_;first|with_reducible exact Hb7.o|exact Hb7.o.alloc Hb7.o.size _)
        |false=>
         go_wp2_with ((with_reducible refine Ad (op:=⟨none,.store 124 _ _,_,_,_,none⟩) rfl 124 _ _ rfl w.heap.size 0 [.int .i64 0,.string ⟨#[]⟩,.string ⟨#[]⟩,.string ⟨#[]⟩,.string ⟨#[]⟩,.string ⟨#[]⟩] ?_ ?_ ?_ ?_ ?_ ?_);rfl;rfl;(first|exact World.there_alloc HT7.o _|exact HT7.o);kernel_rfl;(simp[Value.oneCell']);intro w9 HS9)
         have HZ:=Aa (show w9.rangeAt w.heap.size 0 [.int .i64 0,.string ⟨#[]⟩,.string ⟨#[]⟩,.string ⟨#[]⟩,.string ⟨#[]⟩,.string ⟨#[]⟩]from by rw[HS9.o];exact World.rangeAt_setCells_same _ _ _ _ (by first|exact World.there_alloc HT7.o _|exact HT7.o))
         refine bodyPost_ret (v:=.tuple #[.agg ([.int .i64 0,.string ⟨#[]⟩,.string ⟨#[]⟩,.string ⟨#[]⟩,.string ⟨#[]⟩,.string ⟨#[]⟩]:List Value).toArray,.bool false]) ?_ rfl ?_
         ·exact Ao results114 _ _ w.heap.size [.int .i64 0,.string ⟨#[]⟩,.string ⟨#[]⟩,.string ⟨#[]⟩,.string ⟨#[]⟩,.string ⟨#[]⟩] _ _ rfl rfl HZ.o underlying124 rfl (by kernel_rfl)
         exact Dv.no (Hst2.o.trans (if_neg (by decide))) rfl (by rw[HS9.o];refine Ag _ (Ap _) _ _ _ ?_;first|with_reducible exact Hb7.o|exact Hb7.o.alloc Hb7.o.size _)
       have hsg1:(k.signs != [])=true:=by simp[hsg]
       have hsg2:k.signs.isEmpty=false:=by simp[hsg]
       have hsg3:(!k.signs.isEmpty)=true:=by simp[hsg]
       have Hw:=Aa (HF3.o.trans (if_pos ⟨rfl,fun h=>hsg h.2.1⟩))
       clear hsg h82
       go_wp2_with (first|((with_reducible refine Ad (op:=⟨none,.store 62 _ _,_,_,_,none⟩) rfl 62 _ _ rfl w2.heap.size 2 [.string ⟨k.signs.toArray⟩,.string ⟨k.base.toArray⟩,.string ⟨k.name.toArray⟩] ?_ ?_ ?_ ?_ ?_ ?_);rfl;rfl;(exact J7 HK5.o 2 3 (by decide) (by decide));kernel_rfl;(simp[Value.oneCell']);intro w6 HS6;have HT6:=Aa (show w6.there w.heap.size 0 6 from HS6.o ▸ World.there_setCells HT5.o _ _ _);have HR6:=Aa (show w6.rangeAt w2.heap.size 0 [.int .i64 (n:Int),.string ⟨b.toArray⟩,.string ⟨k.signs.toArray⟩,.string ⟨k.base.toArray⟩,.string ⟨k.name.toArray⟩,.string ⟨vl.toArray⟩]from HS6.o ▸ C7 [.int .i64 (n:Int),.string ⟨b.toArray⟩] [.string ⟨#[]⟩,.string ⟨#[]⟩,.string ⟨#[]⟩] [.string ⟨vl.toArray⟩] [.string ⟨k.signs.toArray⟩,.string ⟨k.base.toArray⟩,.string ⟨k.name.toArray⟩] HR5.o rfl);have Hb6:=Aa (show Below w.heap.size w w6 from HS6.o ▸ Ag _ (Nat.le_of_lt hzz) _ _ _ Hb5.o);have hz6:w2.heap.size<w6.heap.size:=(by rw[HS6.o,B6];exact hz5);have z2:w6.cell? ⟨w2.heap.size,2,none⟩=some (.string ⟨k.signs.toArray⟩):=(by simpa using Ab HR6.o 2 rfl);have z3:w6.cell? ⟨w2.heap.size,3,none⟩=some (.string ⟨k.base.toArray⟩):=(by simpa using Ab HR6.o 3 rfl);clear HT5 HR5 HK5 HS6)|((with_reducible refine Ad (op:=⟨none,.store 124 _ _,_,_,_,none⟩) rfl 124 _ _ rfl w.heap.size 0 [.int .i64 0,.string ⟨#[]⟩,.string ⟨#[]⟩,.string ⟨#[]⟩,.string ⟨#[]⟩,.string ⟨#[]⟩] ?_ ?_ ?_ ?_ ?_ ?_);rfl;rfl;(first|exact World.there_alloc HT6.o _|exact HT6.o);kernel_rfl;(simp[Value.oneCell']);intro w9 HS9))
       have HZ:=Aa (show w9.rangeAt w.heap.size 0 [.int .i64 0,.string ⟨#[]⟩,.string ⟨#[]⟩,.string ⟨#[]⟩,.string ⟨#[]⟩,.string ⟨#[]⟩]from by rw[HS9.o];exact World.rangeAt_setCells_same _ _ _ _ (by first|exact World.there_alloc HT6.o _|exact HT6.o))
       refine bodyPost_ret (v:=.tuple #[.agg ([.int .i64 0,.string ⟨#[]⟩,.string ⟨#[]⟩,.string ⟨#[]⟩,.string ⟨#[]⟩,.string ⟨#[]⟩]:List Value).toArray,.bool false]) ?_ rfl ?_
       ·exact Ao results114 _ _ w.heap.size [.int .i64 0,.string ⟨#[]⟩,.string ⟨#[]⟩,.string ⟨#[]⟩,.string ⟨#[]⟩,.string ⟨#[]⟩] _ _ rfl rfl HZ.o underlying124 rfl (by kernel_rfl)
       exact Dv.no Hw.o rfl (by rw[HS9.o];refine Ag _ (Ap _) _ _ _ ?_;first|with_reducible exact Hb6.o|exact Hb6.o.alloc Hb6.o.size _)
      have n82:((st.toNat:Int) != 82)=true:=Pe (c:=st) (d:=82) h82
      have Hw:=Aa (HF3.o.trans (if_pos ⟨rfl,fun h=>h82 h.1⟩))
      clear h82
      go_wp2_with (first|((with_reducible refine Ad (op:=⟨none,.store 62 _ _,_,_,_,none⟩) rfl 62 _ _ rfl w2.heap.size 2 [.string ⟨k.signs.toArray⟩,.string ⟨k.base.toArray⟩,.string ⟨k.name.toArray⟩] ?_ ?_ ?_ ?_ ?_ ?_);rfl;rfl;(exact J7 HK5.o 2 3 (by decide) (by decide));kernel_rfl;(simp[Value.oneCell']);intro w6 HS6;have HT6:=Aa (show w6.there w.heap.size 0 6 from HS6.o ▸ World.there_setCells HT5.o _ _ _);have HR6:=Aa (show w6.rangeAt w2.heap.size 0 [.int .i64 (n:Int),.string ⟨b.toArray⟩,.string ⟨k.signs.toArray⟩,.string ⟨k.base.toArray⟩,.string ⟨k.name.toArray⟩,.string ⟨vl.toArray⟩]from HS6.o ▸ C7 [.int .i64 (n:Int),.string ⟨b.toArray⟩] [.string ⟨#[]⟩,.string ⟨#[]⟩,.string ⟨#[]⟩] [.string ⟨vl.toArray⟩] [.string ⟨k.signs.toArray⟩,.string ⟨k.base.toArray⟩,.string ⟨k.name.toArray⟩] HR5.o rfl);have Hb6:=Aa (show Below w.heap.size w w6 from HS6.o ▸ Ag _ (Nat.le_of_lt hzz) _ _ _ Hb5.o);have hz6:w2.heap.size<w6.heap.size:=(by rw[HS6.o,B6];exact hz5);have z2:w6.cell? ⟨w2.heap.size,2,none⟩=some (.string ⟨k.signs.toArray⟩):=(by simpa using Ab HR6.o 2 rfl);have z3:w6.cell? ⟨w2.heap.size,3,none⟩=some (.string ⟨k.base.toArray⟩):=(by simpa using Ab HR6.o 3 rfl);clear HT5 HR5 HK5 HS6)|((with_reducible refine Ad (op:=⟨none,.store 124 _ _,_,_,_,none⟩) rfl 124 _ _ rfl w.heap.size 0 [.int .i64 0,.string ⟨#[]⟩,.string ⟨#[]⟩,.string ⟨#[]⟩,.string ⟨#[]⟩,.string ⟨#[]⟩] ?_ ?_ ?_ ?_ ?_ ?_);rfl;rfl;(first|exact World.there_alloc HT6.o _|exact HT6.o);kernel_rfl;(simp[Value.oneCell']);intro w9 HS9))
      have HZ:=Aa (show w9.rangeAt w.heap.size 0 [.int .i64 0,.string ⟨#[]⟩,.string ⟨#[]⟩,.string ⟨#[]⟩,.string ⟨#[]⟩,.string ⟨#[]⟩]from by rw[HS9.o];exact World.rangeAt_setCells_same _ _ _ _ (by first|exact World.there_alloc HT6.o _|exact HT6.o))
      refine bodyPost_ret (v:=.tuple #[.agg ([.int .i64 0,.string ⟨#[]⟩,.string ⟨#[]⟩,.string ⟨#[]⟩,.string ⟨#[]⟩,.string ⟨#[]⟩]:List Value).toArray,.bool false]) ?_ rfl ?_
      ·exact Ao results114 _ _ w.heap.size [.int .i64 0,.string ⟨#[]⟩,.string ⟨#[]⟩,.string ⟨#[]⟩,.string ⟨#[]⟩,.string ⟨#[]⟩] _ _ rfl rfl HZ.o underlying124 rfl (by kernel_rfl)
      exact Dv.no Hw.o rfl (by rw[HS9.o];refine Ag _ (Ap _) _ _ _ ?_;first|with_reducible exact Hb6.o|exact Hb6.o.alloc Hb6.o.size _)
 have Hno:=Aa (HF.o.trans (Vu (vl:=vl) (td:=td) (st:=st) (ps:=ps) (by rw[if_neg Hst0.o];exact hlen)))
 have hl1:¬(ps.length:Int)=3:=by omega
 have hl2:((ps.length:Int) != 3)=true:=by rw[bne_iff_ne];exact hl1
 clear HF Hpl Hcells
 go_wp2_with ((with_reducible refine Ad (op:=⟨none,.store 124 _ _,_,_,_,none⟩) rfl 124 _ _ rfl w.heap.size 0 [.int .i64 0,.string ⟨#[]⟩,.string ⟨#[]⟩,.string ⟨#[]⟩,.string ⟨#[]⟩,.string ⟨#[]⟩] ?_ ?_ ?_ ?_ ?_ ?_);rfl;rfl;(first|exact World.there_alloc HT.o _|exact HT.o);kernel_rfl;(simp[Value.oneCell']);intro w9 HS9)
 have HZ:=Aa (show w9.rangeAt w.heap.size 0 [.int .i64 0,.string ⟨#[]⟩,.string ⟨#[]⟩,.string ⟨#[]⟩,.string ⟨#[]⟩,.string ⟨#[]⟩]from by rw[HS9.o];exact World.rangeAt_setCells_same _ _ _ _ (by first|exact World.there_alloc HT.o _|exact HT.o))
 refine bodyPost_ret (v:=.tuple #[.agg ([.int .i64 0,.string ⟨#[]⟩,.string ⟨#[]⟩,.string ⟨#[]⟩,.string ⟨#[]⟩,.string ⟨#[]⟩]:List Value).toArray,.bool false]) ?_ rfl ?_
 ·exact Ao results114 _ _ w.heap.size [.int .i64 0,.string ⟨#[]⟩,.string ⟨#[]⟩,.string ⟨#[]⟩,.string ⟨#[]⟩,.string ⟨#[]⟩] _ _ rfl rfl HZ.o underlying124 rfl (by kernel_rfl)
 exact Dv.no Hno.o rfl (by rw[HS9.o];refine Ag _ (Ap _) _ _ _ ?_;first|with_reducible exact Hb.o|exact Hb.o.alloc Hb.o.size _)
end
end Go.Proofs.YtkgkoicedddkmaaGreatDoor
