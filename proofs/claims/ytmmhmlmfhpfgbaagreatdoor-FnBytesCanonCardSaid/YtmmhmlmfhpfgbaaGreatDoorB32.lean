/- Texts joined. Conditions: as each theorem names them. -/
import Derived.Test.YtmmhmlmfhpfgbaaGreatDoorB31
set_option maxRecDepth 100000
set_option maxHeartbeats 32000000
set_option linter.unusedVariables false
set_option linter.unusedSimpArgs false
namespace Go.Proofs.YtmmhmlmfhpfgbaaGreatDoor
open Go.RowKit Go.Proofs.Tryz
section
attribute [local go_sem] Qra Qpu Qo3 Qmi ByteArray.mk_append_mk
theorem X9(a d s:List UInt8)(w:World)(ha:a.length<=4000000)(hd:d.length<=4000000)(hs:s.length<=4000000):
  Calls prog 33 #[.string ⟨a.toArray⟩,.string ⟨d.toArray⟩,.string ⟨s.toArray⟩] w fun e w'=>e=.returned (.bool (Qff (Bq a d) s))/\Below w.heap.size w w':=by
 have HO:=Aa (Qjt a d s w ha hd hs)
 obtain⟨cc,hcc⟩:∃cc,cc=Qff (Bq a d) s:=⟨_,rfl⟩
 rw[<-hcc]
 unfold Qff at hcc
 have HC:=Aa hcc
 clear hcc
 go_enter func33,ntmps33
 go_wp2_with fail
 refine HO.o.mono ?_
 rintro e w1 ⟨hb1,⟨hv,v,q,rfl⟩|⟨S,k,v,xv,xs,b,hb,hv,rfl,hxs,hsc,hat⟩⟩
 ·have HC:=Aa (show cc=false by rw[HC.o,hv])
  have Hb1:=Aa hb1
  clear hv hb1
  go_wp2_with fail
  go_ret
  exact⟨by rw[HC.o];rfl,Hb1.o⟩
 have HC:=Aa (show cc=(Dg v == s)by rw[HC.o,hv])
 obtain⟨g1,_,_,g4,_⟩:=Ec hb
 have Hb1:=Aa hb1
 rw[hb]at hv
 obtain⟨h6,hr,h4⟩:=Qdj.1 (show rfB S k s=some v from hv)
 have hvo:=Mc g1.1.1 12 k s v [] g4 hr
 have hbl:=Qf2 _ _ _ hvo
 have HX:=Aa (Qhr g1.1.1 _ 12 k v hvo g4 b w1 hat (by omega))
 clear hb1 hb hv hxs hsc hat g1 g4 h6 hr h4 hvo hbl HO
 generalize Dg v=bv at *
 go_wp2_with fail
 refine HX.o.mono ?_
 rintro e w2 ⟨rfl,hb2⟩
 have Hb2:=Aa (Hb1.o.trans (hb2.mono Hb1.o.size))
 clear hb2
 go_wp2_with fail
 go_ret
 exact⟨by rw[HC.o];rfl,Hb2.o⟩
def Rm(st:Nat × Nat)(c:UInt8):Option (Nat × Nat):=
 if Bi c=true then some (st.1,st.2+1)else if c=64/\8<st.1+st.2 then none else some (st.2,0)
def mach:Nat × Nat->List UInt8->Option (Nat × Nat)
 |st,[]=>some st
 |st,c::r=>match Rm st c with
  |none=>none
  |some q=>mach q r
theorem Gd:∀(a b:List UInt8) (st:Nat × Nat),mach st (a++b)=match mach st a with|none=>none|some q=>mach q b
 |[],b,st=>rfl
 |c::a,b,st=>by
  rw[aw,mach,mach];cases h:Rm st c with
  |none=>rfl
  |some q=>exact Gd a b q
theorem Jz:∀(g:List UInt8) (st:Nat × Nat),g.all Bi=true->mach st g=some (st.1,st.2+g.length)
 |[],st,_=>rfl
 |c::g,st,h=>by
  simp only[List.all_cons,ax]at h;rw[mach,Rm,if_pos h.1];simp only;rw[Jz g _ h.2];simp;omega
theorem Qet{p:List UInt8}{x:UInt8}{g1 g2 q:List UInt8}(h1:g1.all Bi=true)(h2:g2.all Bi=true){st:Nat × Nat}(h:mach (0,0) (p++(g1++x::(g2++64::q)))=some st):g1.length+g2.length<=8:=by
 rw[Gd]at h;cases hp:mach (0,0) p with
 |none=>rw[hp]at h;cases h
 |some s0=>
  rw[hp]at h;simp only at h;rw[Gd,Jz g1 _ h1]at h;simp only[mach]at h;by_cases hx:Bi x=true
  ·rw[Rm,if_pos hx]at h;simp only at h;rw[Gd,Jz g2 _ h2]at h;simp only[mach]at h;rw[Rm,if_neg aL]at h;split at h
   ·cases h
   rename_i h';split at h'
   ·cases h'
   rename_i hc;simp at hc;omega
  rw[Rm,if_neg hx]at h;split at h
  ·cases h
  rename_i h';split at h'
  ·cases h'
  injection h' with h';subst h';rw[Gd,Jz g2 _ h2]at h;simp only[mach]at h;rw[Rm,if_neg aL]at h;split at h
  ·cases h
  rename_i h';split at h'
  ·cases h'
  rename_i hc;simp at hc;omega
theorem Ta{p g q:List UInt8}(h1:g.all Bi=true){st:Nat × Nat}(h:mach (0,0) (p++(g++64::q))=some st):g.length<=8:=by
 rw[Gd]at h;cases hp:mach (0,0) p with
 |none=>rw[hp]at h;cases h
 |some s0=>
  rw[hp]at h;simp only at h;rw[Gd,Jz g _ h1]at h;simp only[mach]at h;rw[Rm,if_neg aL]at h;split at h
  ·cases h
  rename_i h';split at h'
  ·cases h'
  rename_i hc;simp at hc;omega
def Z6(s:List UInt8):Prop:=∀p g q,s=p++(g++64::q)->g.all Bi=true->g.length<=8
theorem Z6.of_mach{s:List UInt8}{st:Nat × Nat}(h:mach (0,0) s=some st):Z6 s:=fun p g q e hg=>by subst e;exact Ta hg h
theorem Qc3:∀{a b c d:List UInt8},a++b=c++d->(∃m,c=a++m/\b=m++d)\/(∃m,a=c++m/\d=m++b)
 |[],b,c,d,h=>.inl ⟨c,rfl,h⟩
 |x::a,b,[],d,h=>.inr ⟨x::a,rfl,h.symm⟩
 |x::a,b,y::c,d,h=>by
  rw[aw,aw]at h;injection h with h1 h2;subst h1;rcases Qc3 h2 with⟨m,e1,e2⟩|⟨m,e1,e2⟩
  ·exact .inl ⟨m,by rw[e1];rfl,e2⟩
  exact .inr ⟨m,by rw[e1];rfl,e2⟩
theorem Qnd{p:UInt8->Bool}{a b:List UInt8}(h:(a++b).all p=true):a.all p=true/\b.all p=true:=by
 rw[List.all_append,ax]at h;exact h
theorem Z6.turned{a b:List UInt8}{x:UInt8}{st:Nat × Nat}(h:mach (0,0) (a++x::b)=some st)(i:List UInt8)(hi:i=[]\/∃c,i=[c]/\Bi c=false/\c≠64):Z6 (a++(i++b)):=by
 intro p g q e hg;rcases Qc3 e with⟨m,e1,e2⟩|⟨m,e1,e2⟩
 ·
  rcases hi with rfl|⟨c,rfl,_,_⟩
  ·rw[List.nil_append]at e2;subst e2;exact Ta (p:=a++x::m) hg aU
  cases m with
  |nil=>
   rw[List.nil_append,List.singleton_append]at e2;cases g with
   |nil=>simp
   |cons y g=>
    rw[aw]at e2;injection e2 with e3 e4;subst e3;simp only[List.all_cons,ax]at hg;rename_i hc _;rw[hg.1]at hc;cases hc
  |cons y m=>
   rw[List.singleton_append,aw]at e2;injection e2 with e3 e4;subst e4;exact Ta (p:=a++x::m) hg aU
 ·
  subst e1;rcases Qc3 e2 with⟨n,f1,f2⟩|⟨n,f1,f2⟩
  ·
   subst f1;cases n with
   |nil=>
    rw[List.nil_append]at f2;rcases hi with rfl|⟨c,rfl,_,hc⟩
    ·rw[List.nil_append]at f2;subst f2;have:=Qet (p:=p) (x:=x) (g1:=g) (g2:=[]) (q:=q) hg rfl aU;simpa using this
    rw[List.singleton_append]at f2;injection f2 with f3 _;exact absurd f3.symm hc
   |cons y n=>
    rw[aw]at f2;injection f2 with f3 f4;subst f3;exact Ta (p:=p) (g:=g) (q:=n++x::b) hg aU
  ·
   subst f1;obtain⟨hm,hn⟩:=Qnd hg;rcases hi with rfl|⟨c,rfl,hc,hc2⟩
   ·rw[List.nil_append]at f2;subst f2;have:=Qet (p:=p) (x:=x) (g1:=m) (g2:=n) (q:=q) hm hn aU;rw[ah];exact this
   cases n with
   |nil=>
    rw[List.nil_append,List.singleton_append]at f2;injection f2 with f3 _;exact absurd f3 hc2
   |cons y n=>
    rw[List.singleton_append,aw]at f2;injection f2 with f3 _;subst f3;simp only[List.all_cons,ax]at hn;rw[hn.1]at hc;cases hc
end
end Go.Proofs.YtmmhmlmfhpfgbaaGreatDoor
