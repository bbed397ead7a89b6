/- Texts joined. Conditions: as each theorem names them. -/
import Derived.Test.YtpjijpcemejlnaaGreatDoorR01
set_option maxRecDepth 100000
set_option maxHeartbeats 32000000
set_option linter.unusedVariables false
set_option linter.unusedSimpArgs false
namespace Go.Proofs.YtpjijpcemejlnaaGreatDoor
open Go.RowKit Go.Proofs.Tryz
def Rw(st:Nat × Nat)(c:UInt8):Option (Nat × Nat):=
 if Bn c=true then some (st.1,st.2+1)else if c=64/\8<st.1+st.2 then none else some (st.2,0)
def mach:Nat × Nat->List UInt8->Option (Nat × Nat)
 |st,[]=>some st
 |st,c::r=>match Rw st c with
  |none=>none
  |some q=>mach q r
theorem Ge:∀(a b:List UInt8) (st:Nat × Nat),mach st (a++b)=match mach st a with|none=>none|some q=>mach q b
 |[],b,st=>rfl
 |c::a,b,st=>by
  rw[aw,mach,mach];cases h:Rw st c with
  |none=>rfl
  |some q=>exact Ge a b q
theorem J9:∀(g:List UInt8) (st:Nat × Nat),g.all Bn=true->mach st g=some (st.1,st.2+g.length)
 |[],st,_=>rfl
 |c::g,st,h=>by
  simp only[List.all_cons,ax]at h;rw[mach,Rw,if_pos h.1];simp only;rw[J9 g _ h.2];simp;omega
theorem Qc3{p:List UInt8}{x:UInt8}{g1 g2 q:List UInt8}(h1:g1.all Bn=true)(h2:g2.all Bn=true){st:Nat × Nat}(h:mach (0,0) (p++(g1++x::(g2++64::q)))=some st):g1.length+g2.length<=8:=by
 rw[Ge]at h;cases hp:mach (0,0) p with
 |none=>rw[hp]at h;cases h
 |some s0=>
  rw[hp]at h;simp only at h;rw[Ge,J9 g1 _ h1]at h;simp only[mach]at h;by_cases hx:Bn x=true
  ·rw[Rw,if_pos hx]at h;simp only at h;rw[Ge,J9 g2 _ h2]at h;simp only[mach]at h;rw[Rw,if_neg aL]at h;split at h
   ·cases h
   rename_i h';split at h'
   ·cases h'
   rename_i hc;simp at hc;omega
  rw[Rw,if_neg hx]at h;split at h
  ·cases h
  rename_i h';split at h'
  ·cases h'
  injection h' with h';subst h';rw[Ge,J9 g2 _ h2]at h;simp only[mach]at h;rw[Rw,if_neg aL]at h;split at h
  ·cases h
  rename_i h';split at h'
  ·cases h'
  rename_i hc;simp at hc;omega
theorem Tk{p g q:List UInt8}(h1:g.all Bn=true){st:Nat × Nat}(h:mach (0,0) (p++(g++64::q))=some st):g.length<=8:=by
 rw[Ge]at h;cases hp:mach (0,0) p with
 |none=>rw[hp]at h;cases h
 |some s0=>
  rw[hp]at h;simp only at h;rw[Ge,J9 g _ h1]at h;simp only[mach]at h;rw[Rw,if_neg aL]at h;split at h
  ·cases h
  rename_i h';split at h'
  ·cases h'
  rename_i hc;simp at hc;omega
def Y8(s:List UInt8):Prop:=∀p g q,s=p++(g++64::q)->g.all Bn=true->g.length<=8
theorem Y8.of_mach{s:List UInt8}{st:Nat × Nat}(h:mach (0,0) s=some st):Y8 s:=fun p g q e hg=>by subst e;exact Tk hg h
theorem Qb8:∀{a b c d:List UInt8},a++b=c++d->(∃m,c=a++m/\b=m++d)\/(∃m,a=c++m/\d=m++b)
 |[],b,c,d,h=>.inl ⟨c,rfl,h⟩
 |x::a,b,[],d,h=>.inr ⟨x::a,rfl,h.symm⟩
 |x::a,b,y::c,d,h=>by
  rw[aw,aw]at h;injection h with h1 h2;subst h1;rcases Qb8 h2 with⟨m,e1,e2⟩|⟨m,e1,e2⟩
  ·exact .inl ⟨m,by rw[e1];rfl,e2⟩
  exact .inr ⟨m,by rw[e1];rfl,e2⟩
theorem Qkx{p:UInt8->Bool}{a b:List UInt8}(h:(a++b).all p=true):a.all p=true/\b.all p=true:=by
 rw[List.all_append,ax]at h;exact h
theorem Y8.turned{a b:List UInt8}{x:UInt8}{st:Nat × Nat}(h:mach (0,0) (a++x::b)=some st)(i:List UInt8)(hi:i=[]\/∃c,i=[c]/\Bn c=false/\c≠64):Y8 (a++(i++b)):=by
 intro p g q e hg;rcases Qb8 e with⟨m,e1,e2⟩|⟨m,e1,e2⟩
 ·
  rcases hi with rfl|⟨c,rfl,_,_⟩
  ·rw[List.nil_append]at e2;subst e2;exact Tk (p:=a++x::m) hg aQ
  cases m with
  |nil=>
   rw[List.nil_append,List.singleton_append]at e2;cases g with
   |nil=>simp
   |cons y g=>
    rw[aw]at e2;injection e2 with e3 e4;subst e3;simp only[List.all_cons,ax]at hg;rename_i hc _;rw[hg.1]at hc;cases hc
  |cons y m=>
   rw[List.singleton_append,aw]at e2;injection e2 with e3 e4;subst e4;exact Tk (p:=a++x::m) hg aQ
 ·
  subst e1;rcases Qb8 e2 with⟨n,f1,f2⟩|⟨n,f1,f2⟩
  ·
   subst f1;cases n with
   |nil=>
    rw[List.nil_append]at f2;rcases hi with rfl|⟨c,rfl,_,hc⟩
    ·rw[List.nil_append]at f2;subst f2;have:=Qc3 (p:=p) (x:=x) (g1:=g) (g2:=[]) (q:=q) hg rfl aQ;simpa using this
    rw[List.singleton_append]at f2;injection f2 with f3 _;exact absurd f3.symm hc
   |cons y n=>
    rw[aw]at f2;injection f2 with f3 f4;subst f3;exact Tk (p:=p) (g:=g) (q:=n++x::b) hg aQ
  ·
   subst f1;obtain⟨hm,hn⟩:=Qkx hg;rcases hi with rfl|⟨c,rfl,hc,hc2⟩
   ·rw[List.nil_append]at f2;subst f2;have:=Qc3 (p:=p) (x:=x) (g1:=m) (g2:=n) (q:=q) hm hn aQ;rw[ai];exact this
   cases n with
   |nil=>
    rw[List.nil_append,List.singleton_append]at f2;injection f2 with f3 _;exact absurd f3 hc2
   |cons y n=>
    rw[List.singleton_append,aw]at f2;injection f2 with f3 _;subst f3;simp only[List.all_cons,ax]at hn;rw[hn.1]at hc;cases hc
end Go.Proofs.YtpjijpcemejlnaaGreatDoor
