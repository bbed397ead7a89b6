/- Texts joined. Conditions: as each theorem names them. -/
import Derived.Test.YtkigmebejmmikaaGreatDoorV01
set_option maxRecDepth 100000
set_option maxHeartbeats 32000000
set_option linter.unusedVariables false
set_option linter.unusedSimpArgs false
namespace Go.Proofs.YtkigmebejmmikaaGreatDoor
open Go.RowKit Go.Proofs.Tryz
theorem Nt{α:Type}{g:α->List Value}{k:Nat}(hk:∀x,(g x).length=k):∀(l:List α) (i j:Nat),(hi:i<l.length)->j<k->(l.flatMap g)[i*k+j]?=(g l[i])[j]?
 |[],i,j,hi,_=>by simp at hi
 |x::l,0,j,_,hj=>by
  simp only[Nat.zero_mul,am,List.flatMap_cons,List.getElem_cons_zero];rw[List.getElem?_append_left (by rw[hk];exact hj)]
 |x::l,i+1,j,hi,hj=>by
  have ih:=Nt hk l i j eI hj;simp only[List.flatMap_cons,List.getElem_cons_succ];rw[List.getElem?_append_right (by rw[hk,Nat.add_mul];omega),hk];rw[show (i+1)*k+j - k=i*k+j by rw[Nat.add_mul];omega];exact ih
theorem Fo{α:Type}{g:α->List Value}{k:Nat}(hk:∀x,(g x).length=k):∀l:List α,(l.flatMap g).length=l.length*k
 |[]=>aL
 |x::l=>by
  rw[List.flatMap_cons,ah,hk,Fo hk l,List.length_cons,Nat.add_mul];omega
theorem Bh.elem{w:World}{A:Option Addr}{α:Type}{g:α->List Value}{k:Nat}{l:List α}(hk:∀x,(g x).length=k)(hk0:0<k)(h:Bh w A (l.length*k) (l.flatMap g)){i:Nat}(hi:i<l.length):
  ∃b off,A=some ⟨b,off,none⟩/\b<w.heap.size/\∀j u,(g l[i])[j]?=some u->w.cell? ⟨b,off+(i*k+j),none⟩=some u:=by
 have hpos:0<l.length*k:=Nat.mul_pos aG hk0;obtain⟨b,off,e,hlt,hc⟩:=h.2.2 hpos;refine⟨b,off,e,hlt,fun j u hu=>hc _ u ?_⟩;have hj:j<k:=by
  have:=(List.getElem?_eq_some_iff.1 hu).1;rwa [hk]at this
 rw[Nt hk l i j hi hj];exact hu
def Xh(f:Fd):List Value:=[(f.tag:Int),f.name,.string ⟨(Bt f.kind).toArray⟩,f.given]
def sfV(f:Fd):Value:=.agg #[(f.tag:Int),f.name,.string ⟨(Bt f.kind).toArray⟩,f.given]
def sf0:Value:=.agg #[.int .i64 0,aa,aa,aa]
theorem Qme(f:Fd):(Xh f).length=4:=rfl
def Ef(w:World)(v:Value)(fs:List Fd):Prop:=∃A c,v=.slice A fs.length c/\fs.length<=1000/\Bh w A (fs.length*4) (fs.flatMap Xh)
theorem Ef.below{w w':World}{v:Value}{fs:List Fd}(h:Ef w v fs)(hb:Below w w w'):Ef w' v fs:=by
 exact kG
theorem Ef.at_{w:World}{A:Option Addr}{fs:List Fd}(hr:Bh w A (fs.length*4) (fs.flatMap Xh)){i:Nat}(hi:i<fs.length):
  ∃b off,A=some ⟨b,off,none⟩/\b<w.heap.size/\w.cell? ⟨b,off+i*4,none⟩=some (.int .i64 (fs[i].tag:Int))/\w.cell? ⟨b,off+i*4+1,none⟩=some (.string ⟨fs[i].name.toArray⟩) /\
   w.cell? ⟨b,off+i*4+2,none⟩=some (.string ⟨(Bt fs[i].kind).toArray⟩)/\w.cell? ⟨b,off+i*4+3,none⟩=some (.string ⟨fs[i].given.toArray⟩):=by
 obtain⟨b,off,e,hlt,hc⟩:=hr.elem Qme aJ hi;refine⟨b,off,e,hlt,?_,?_,?_,?_⟩
 ·exact jW
 ·exact jF
 ·exact jO
 have:=hc 3 _ rfl;simpa [Nat.add_assoc]using this
def Rm(t:Ty)(fv:Value):Value:=.agg #[.int .u8 (t.sort.toNat:Int),t.name,fv]
def P2:Value:=.agg #[.int .u8 0,aa,.slice none 0 0]
def stc(x:Ty × Value):List Value:=[.int .u8 (x.1.sort.toNat:Int),x.1.name,x.2]
theorem Qmh(x:Ty × Value):(stc x).length=3:=rfl
def G8(w:World)(v:Value)(xs:List (Ty × Value)):Prop:=∃A c,v=.slice A xs.length c/\xs.length<=1000/\Bh w A (xs.length*3) (xs.flatMap stc)/\∀x∈xs,Ef w x.2 x.1.fields
theorem G8.below{w w':World}{v:Value}{xs:List (Ty × Value)}(h:G8 w v xs)(hb:Below w w w'):G8 w' v xs:=by
 obtain⟨A,c,e,hl,hr,hf⟩:=h;exact⟨A,c,e,hl,hr.below hb,fun x hx=>(hf x hx).below hb⟩
def Ag(xs:List (Ty × Value)):List Ty:=xs.map (·.1)
def E3(xs:List (Ty × Value))(n:List UInt8):Option (Ty × Value):=xs.find? fun x=>decide (x.1.name=n)
theorem J9(xs:List (Ty × Value))(n:List UInt8):B6 (Ag xs) n=(E3 xs n).map (·.1):=by
 unfold B6 Ag E3;rw[List.find?_map];rfl
theorem Db{xs:List (Ty × Value)}{n:List UInt8}{x:Ty × Value}(h:E3 xs n=some x):x∈xs/\x.1.name=n/\B6 (Ag xs) n=some x.1:=by
 refine⟨List.mem_of_find?_eq_some h,?_,by rw[J9,h];rfl⟩;have:=List.find?_some h;simpa using this
theorem Qf0{xs:List (Ty × Value)}{n:List UInt8}(h:E3 xs n=none):B6 (Ag xs) n=none:=by rw[J9,h];rfl
def J3(xs:List (Ty × Value))(k:Kd):Option (Ty × Value):=if k.signs=[]/\k.base=[64]then E3 xs k.name else none
theorem G8.at_{w:World}{A:Option Addr}{xs:List (Ty × Value)}(hr:Bh w A (xs.length*3) (xs.flatMap stc)){i:Nat}(hi:i<xs.length):
  ∃b off,A=some ⟨b,off,none⟩/\b<w.heap.size/\w.cell? ⟨b,off+i*3,none⟩=some (.int .u8 (xs[i].1.sort.toNat:Int))/\w.cell? ⟨b,off+i*3+1,none⟩=some (.string ⟨xs[i].1.name.toArray⟩) /\
   w.cell? ⟨b,off+i*3+2,none⟩=some xs[i].2:=by
 obtain⟨b,off,e,hlt,hc⟩:=hr.elem Qmh aJ hi;refine⟨b,off,e,hlt,?_,?_,?_⟩
 ·exact jW
 ·exact jF
 have:=hc 2 _ rfl;simpa [Nat.add_assoc]using this
def Bj(fs:List Fd)(n:Nat):Option Fd:=fs.find? fun f=>decide (f.tag=n)
theorem Tr{α:Type}{p:α->Bool}{l:List α}{k:Nat}(hk:k<l.length)(h:∀x∈l.take k,p x=false):l.find? p=if p l[k]=true then some l[k]else(l.drop (k+1)).find? p:=by
 have e:l=l.take k++l[k]::l.drop (k+1):=by rw[<-List.drop_eq_getElem_cons hk,List.take_append_drop]
 conv=>lhs;rw[e]
 rw[List.find?_append];have h1:(l.take k).find? p=none:=List.find?_eq_none.2 (fun x hx=>by simp[h x hx]);rw[h1,Option.none_or,List.find?_cons];cases p l[k]<;>rfl
theorem Ny{α:Type}{p:α->Bool}{l:List α}(h:∀x∈l,p x=false):l.find? p=none:=List.find?_eq_none.2 (fun x hx=>by simp[h x hx])
end Go.Proofs.YtkigmebejmmikaaGreatDoor
