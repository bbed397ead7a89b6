/- Texts joined. Conditions: as each theorem names them. -/
import Derived.Sort.Walk0
import Derived.Test.YtmmhmlmfhpfgbaaGreatDoorF15
set_option maxRecDepth 100000
set_option maxHeartbeats 32000000
set_option linter.unusedVariables false
set_option linter.unusedSimpArgs false
namespace Go.Proofs.YtmmhmlmfhpfgbaaGreatDoor
open Go.RowKit Go.Proofs.Tryz
def Yz(w:World)(v:Value)(l:List Cn):Prop:=
 ∃g c,v=.slice (some ⟨g,0,none⟩) l.length c/\g<w.heap.size/\l.length<=c/\c<=maxLen/\∀j (hj:j<l.length),w.cell? ⟨g,j,none⟩=some (.string ⟨l[j].toArray⟩)
theorem Yz.below{w w':World}{v:Value}{l:List Cn}(h:Yz w v l)(hb:Below w w w'):Yz w' v l:=by
 obtain⟨g,c,rfl,hg,h1,h2,hc⟩:=h;exact⟨g,c,rfl,ac hg hb.size,h1,h2,fun j hj=>(hb.cell (p:=⟨g,j,none⟩) hg).trans (hc j hj)⟩
theorem Yz.own{w:World}{base:Nat}{v:Value}{n:Nat}{l:List Cn}(h:w.ownsRow base 9 1 v n (By l))(hne:l≠[]):Yz w v l:=by
 obtain rfl:n=l.length:=by have:=h.1;simp[By]at this;omega
 rcases h.2 with⟨_,h0⟩|⟨g,cap,cur,rfl,hb,hh,hnc,hcm,_⟩
 ·cases l with
  |nil=>exact absurd rfl hne
  |cons=>simp at h0
 refine⟨g,cap,rfl,(h.lt g rfl).2,hnc,hcm,fun j hj=>?_⟩;have:=h.cells (g:=g) rfl j (.string ⟨l[j].toArray⟩) (by simp[By,hj]);rwa [Qgp]at this
theorem Qn4(p:Cn->Bool):∀(l:List Cn),(∀(j:Nat) (hj:j<l.length),j<(l.takeWhile p).length->p l[j]=true)/\(∀(h:(l.takeWhile p).length<l.length),p l[(l.takeWhile p).length]=false) /\
  l.takeWhile p=l.take (l.takeWhile p).length/\l.dropWhile p=l.drop (l.takeWhile p).length/\(l.takeWhile p).length<=l.length
 |[]=>aK
 |x::l=>by
  obtain⟨i1,i2,i3,i4,i5⟩:=Qn4 p l;by_cases h:p x=true
  ·simp only[List.takeWhile_cons,List.dropWhile_cons,h,if_true,List.length_cons];refine⟨?_,?_,?_,?_,by omega⟩
   ·intro j hj hlt;cases j with
    |zero=>simpa using h
    |succ j=>simpa using i1 j (by simpa using hj) fE
   ·intro hh;simpa using i2 (by simpa using hh)
   ·simpa using i3
   simpa using i4
  have h':p x=false:=aR;simp[h']
theorem Gb.fds{w:World}{v:Value}{xs:List (Ty × Value)}(h:Gb w v xs){x:Ty × Value}(hx:x∈xs):Dq w x.2 x.1.fields:=by
 obtain⟨_,_,_,_,_,h⟩:=h;exact h x hx
theorem Qc{c d:UInt8}(h:c≠d):((c.toNat:Int) != (d.toNat:Int))=true:=by
 rw[bne_iff_ne];intro e;exact h (UInt8.toNat_inj.1 aH)
theorem Na{c d:UInt8}(h:c=d):((c.toNat:Int) != (d.toNat:Int))=false:=by subst h;simp
end Go.Proofs.YtmmhmlmfhpfgbaaGreatDoor
