/- Texts joined. Conditions: as each theorem names them. -/
import Derived.Test.YtmmhmlmfhpfgbaaGreatDoorF01
set_option maxRecDepth 100000
set_option maxHeartbeats 32000000
set_option linter.unusedVariables false
set_option linter.unusedSimpArgs false
namespace Go.Proofs.YtmmhmlmfhpfgbaaGreatDoor
open Go.RowKit Go.Proofs.Tryz
def Sb(st:Nat × Nat)(c:UInt8):Option (Nat × Nat):=
 if Bn c=true then some (st.1,st.2+1)else if c=64/\8<st.1+st.2 then none else some (st.2,0)
def mach:Nat × Nat->List UInt8->Option (Nat × Nat)
 |st,[]=>some st
 |st,c::r=>match Sb st c with
  |none=>none
  |some q=>mach q r
theorem Gf:∀(a b:List UInt8) (st:Nat × Nat),mach st (a++b)=match mach st a with|none=>none|some q=>mach q b
 |[],b,st=>rfl
 |c::a,b,st=>by
  rw[av,mach,mach];cases h:Sb st c with
  |none=>rfl
  |some q=>exact Gf a b q
theorem J6:∀(g:List UInt8) (st:Nat × Nat),g.all Bn=true->mach st g=some (st.1,st.2+g.length)
 |[],st,_=>rfl
 |c::g,st,h=>by
  simp only[List.all_cons,aw]at h;rw[mach,Sb,if_pos h.1];simp only;rw[J6 g _ h.2];simp;omega
theorem Qeb{p:List UInt8}{x:UInt8}{g1 g2 q:List UInt8}(h1:g1.all Bn=true)(h2:g2.all Bn=true){st:Nat × Nat}(h:mach (0,0) (p++(g1++x::(g2++64::q)))=some st):g1.length+g2.length<=8:=by
 rw[Gf]at h;cases hp:mach (0,0) p with
 |none=>rw[hp]at h;cases h
 |some s0=>
  rw[hp]at h;simp only at h;rw[Gf,J6 g1 _ h1]at h;simp only[mach]at h;by_cases hx:Bn x=true
  ·rw[Sb,if_pos hx]at h;simp only at h;rw[Gf,J6 g2 _ h2]at h;simp only[mach]at h;rw[Sb,if_neg aJ]at h;split at h
   ·cases h
   rename_i h';split at h'
   ·cases h'
   rename_i hc;simp at hc;omega
  rw[Sb,if_neg hx]at h;split at h
  ·cases h
  rename_i h';split at h'
  ·cases h'
  injection h' with h';subst h';rw[Gf,J6 g2 _ h2]at h;simp only[mach]at h;rw[Sb,if_neg aJ]at h;split at h
  ·cases h
  rename_i h';split at h'
  ·cases h'
  rename_i hc;simp at hc;omega
theorem Tc{p g q:List UInt8}(h1:g.all Bn=true){st:Nat × Nat}(h:mach (0,0) (p++(g++64::q))=some st):g.length<=8:=by
 rw[Gf]at h;cases hp:mach (0,0) p with
 |none=>rw[hp]at h;cases h
 |some s0=>
  rw[hp]at h;simp only at h;rw[Gf,J6 g _ h1]at h;simp only[mach]at h;rw[Sb,if_neg aJ]at h;split at h
  ·cases h
  rename_i h';split at h'
  ·cases h'
  rename_i hc;simp at hc;omega
def Zv(s:List UInt8):Prop:=∀p g q,s=p++(g++64::q)->g.all Bn=true->g.length<=8
theorem Zv.of_mach{s:List UInt8}{st:Nat × Nat}(h:mach (0,0) s=some st):Zv s:=fun p g q e hg=>by subst e;exact Tc hg h
theorem Qb4:∀{a b c d:List UInt8},a++b=c++d->(∃m,c=a++m/\b=m++d)\/(∃m,a=c++m/\d=m++b)
 |[],b,c,d,h=>.inl ⟨c,rfl,h⟩
 |x::a,b,[],d,h=>.inr ⟨x::a,rfl,h.symm⟩
 |x::a,b,y::c,d,h=>by
  rw[av,av]at h;injection h with h1 h2;subst h1;rcases Qb4 h2 with⟨m,e1,e2⟩|⟨m,e1,e2⟩
  ·exact .inl ⟨m,by rw[e1];rfl,e2⟩
  exact .inr ⟨m,by rw[e1];rfl,e2⟩
theorem Qme{p:UInt8->Bool}{a b:List UInt8}(h:(a++b).all p=true):a.all p=true/\b.all p=true:=by
 rw[List.all_append,aw]at h;exact h
theorem Zv.turned{a b:List UInt8}{x:UInt8}{st:Nat × Nat}(h:mach (0,0) (a++x::b)=some st)(i:List UInt8)(hi:i=[]\/∃c,i=[c]/\Bn c=false/\c≠64):Zv (a++(i++b)):=by
 intro p g q e hg;rcases Qb4 e with⟨m,e1,e2⟩|⟨m,e1,e2⟩
 ·
  rcases hi with rfl|⟨c,rfl,_,_⟩
  ·rw[List.nil_append]at e2;subst e2;exact Tc (p:=a++x::m) hg aR
  cases m with
  |nil=>
   rw[List.nil_append,List.singleton_append]at e2;cases g with
   |nil=>simp
   |cons y g=>
    rw[av]at e2;injection e2 with e3 e4;subst e3;simp only[List.all_cons,aw]at hg;rename_i hc _;rw[hg.1]at hc;cases hc
  |cons y m=>
   rw[List.singleton_append,av]at e2;injection e2 with e3 e4;subst e4;exact Tc (p:=a++x::m) hg aR
 ·
  subst e1;rcases Qb4 e2 with⟨n,f1,f2⟩|⟨n,f1,f2⟩
  ·
   subst f1;cases n with
   |nil=>
    rw[List.nil_append]at f2;rcases hi with rfl|⟨c,rfl,_,hc⟩
    ·rw[List.nil_append]at f2;subst f2;have:=Qeb (p:=p) (x:=x) (g1:=g) (g2:=[]) (q:=q) hg rfl aR;simpa using this
    rw[List.singleton_append]at f2;injection f2 with f3 _;exact absurd f3.symm hc
   |cons y n=>
    rw[av]at f2;injection f2 with f3 f4;subst f3;exact Tc (p:=p) (g:=g) (q:=n++x::b) hg aR
  ·
   subst f1;obtain⟨hm,hn⟩:=Qme hg;rcases hi with rfl|⟨c,rfl,hc,hc2⟩
   ·rw[List.nil_append]at f2;subst f2;have:=Qeb (p:=p) (x:=x) (g1:=m) (g2:=n) (q:=q) hm hn aR;rw[ah];exact this
   cases n with
   |nil=>
    rw[List.nil_append,List.singleton_append]at f2;injection f2 with f3 _;exact absurd f3 hc2
   |cons y n=>
    rw[List.singleton_append,av]at f2;injection f2 with f3 _;subst f3;simp only[List.all_cons,aw]at hn;rw[hn.1]at hc;cases hc
end Go.Proofs.YtmmhmlmfhpfgbaaGreatDoor
