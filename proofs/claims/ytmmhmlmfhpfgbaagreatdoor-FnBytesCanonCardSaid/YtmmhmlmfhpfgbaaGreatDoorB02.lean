/- Texts joined. Conditions: as each theorem names them. -/
import Derived.Test.YtmmhmlmfhpfgbaaGreatDoorB01
set_option maxRecDepth 100000
set_option maxHeartbeats 32000000
set_option linter.unusedVariables false
set_option linter.unusedSimpArgs false
namespace Go.Proofs.YtmmhmlmfhpfgbaaGreatDoor
open Go.RowKit Go.Proofs.Tryz
theorem M5{α:Type}{g:α->List Value}{k:Nat}(hk:∀x,(g x).length=k):∀(l:List α) (i j:Nat),(hi:i<l.length)->j<k->(l.flatMap g)[i*k+j]?=(g l[i])[j]?
 |[],i,j,hi,_=>by simp at hi
 |x::l,0,j,_,hj=>by
  simp only[Nat.zero_mul,am,List.flatMap_cons,List.getElem_cons_zero];rw[List.getElem?_append_left (by rw[hk];exact hj)]
 |x::l,i+1,j,hi,hj=>by
  have ih:=M5 hk l i j (by simpa using hi) hj;simp only[List.flatMap_cons,List.getElem_cons_succ];rw[List.getElem?_append_right (by rw[hk,Nat.add_mul];omega),hk];rw[show (i+1)*k+j - k=i*k+j by rw[Nat.add_mul];omega];exact ih
theorem Mx{α:Type}{g:α->List Value}{k:Nat}(hk:∀x,(g x).length=k):∀l:List α,(l.flatMap g).length=l.length*k
 |[]=>aK
 |x::l=>by
  rw[List.flatMap_cons,ah,hk,Mx hk l,List.length_cons,Nat.add_mul];omega
theorem Ca.elem{w:World}{A:Option Addr}{α:Type}{g:α->List Value}{k:Nat}{l:List α}(hk:∀x,(g x).length=k)(hk0:0<k)(h:Ca w A (l.length*k) (l.flatMap g)){i:Nat}(hi:i<l.length):
  ∃b off,A=some ⟨b,off,none⟩/\b<w.heap.size/\∀j u,(g l[i])[j]?=some u->w.cell? ⟨b,off+(i*k+j),none⟩=some u:=by
 have hpos:0<l.length*k:=Nat.mul_pos aI hk0;obtain⟨b,off,e,hlt,hc⟩:=h.2.2 hpos;refine⟨b,off,e,hlt,fun j u hu=>hc _ u ?_⟩;have hj:j<k:=by
  have:=(List.getElem?_eq_some_iff.1 hu).1;rwa [hk]at this
 rw[M5 hk l i j hi hj];exact hu
def sfc(f:Fd):List Value:=[(f.tag:Int),f.name,.string ⟨(Be f.kind).toArray⟩,f.given]
def sfV(f:Fd):Value:=.agg #[(f.tag:Int),f.name,.string ⟨(Be f.kind).toArray⟩,f.given]
def sf0:Value:=.agg #[.int .i64 0,a6,a6,a6]
theorem Qnv(f:Fd):(sfc f).length=4:=rfl
def D8(w:World)(v:Value)(fs:List Fd):Prop:=∃A c,v=.slice A fs.length c/\fs.length<=1000/\Ca w A (fs.length*4) (fs.flatMap sfc)
theorem D8.below{w w':World}{v:Value}{fs:List Fd}(h:D8 w v fs)(hb:Below w w w'):D8 w' v fs:=by
 exact im
theorem D8.at_{w:World}{A:Option Addr}{fs:List Fd}(hr:Ca w A (fs.length*4) (fs.flatMap sfc)){i:Nat}(hi:i<fs.length):
  ∃b off,A=some ⟨b,off,none⟩/\b<w.heap.size/\w.cell? ⟨b,off+i*4,none⟩=some (.int .i64 (fs[i].tag:Int))/\w.cell? ⟨b,off+i*4+1,none⟩=some (.string ⟨fs[i].name.toArray⟩) /\
   w.cell? ⟨b,off+i*4+2,none⟩=some (.string ⟨(Be fs[i].kind).toArray⟩)/\w.cell? ⟨b,off+i*4+3,none⟩=some (.string ⟨fs[i].given.toArray⟩):=by
 obtain⟨b,off,e,hlt,hc⟩:=hr.elem Qnv aL hi;refine⟨b,off,e,hlt,?_,?_,?_,?_⟩
 ·exact hH
 ·exact gM
 ·exact gX
 have:=hc 3 _ rfl;simpa [Nat.add_assoc]using this
def Pu(t:Ty)(fv:Value):Value:=.agg #[.int .u8 (t.sort.toNat:Int),t.name,fv]
def Pt:Value:=.agg #[.int .u8 0,a6,.slice none 0 0]
def stc(x:Ty × Value):List Value:=[.int .u8 (x.1.sort.toNat:Int),x.1.name,x.2]
theorem Qm1(x:Ty × Value):(stc x).length=3:=rfl
def Gj(w:World)(v:Value)(xs:List (Ty × Value)):Prop:=∃A c,v=.slice A xs.length c/\xs.length<=1000/\Ca w A (xs.length*3) (xs.flatMap stc)/\∀x∈xs,D8 w x.2 x.1.fields
theorem Gj.below{w w':World}{v:Value}{xs:List (Ty × Value)}(h:Gj w v xs)(hb:Below w w w'):Gj w' v xs:=by
 obtain⟨A,c,e,hl,hr,hf⟩:=h;exact⟨A,c,e,hl,hr.below hb,fun x hx=>(hf x hx).below hb⟩
def Af(xs:List (Ty × Value)):List Ty:=xs.map (·.1)
def D9(xs:List (Ty × Value))(n:List UInt8):Option (Ty × Value):=xs.find? fun x=>decide (x.1.name=n)
theorem Jq(xs:List (Ty × Value))(n:List UInt8):B9 (Af xs) n=(D9 xs n).map (·.1):=by
 unfold B9 Af D9;rw[List.find?_map];rfl
theorem Cl{xs:List (Ty × Value)}{n:List UInt8}{x:Ty × Value}(h:D9 xs n=some x):x∈xs/\x.1.name=n/\B9 (Af xs) n=some x.1:=by
 refine⟨List.mem_of_find?_eq_some h,?_,by rw[Jq,h];rfl⟩;have:=List.find?_some h;simpa using this
theorem Qgo{xs:List (Ty × Value)}{n:List UInt8}(h:D9 xs n=none):B9 (Af xs) n=none:=by rw[Jq,h];rfl
def Jn(xs:List (Ty × Value))(k:Kd):Option (Ty × Value):=if k.signs=[]/\k.base=[64]then D9 xs k.name else none
theorem Gj.at_{w:World}{A:Option Addr}{xs:List (Ty × Value)}(hr:Ca w A (xs.length*3) (xs.flatMap stc)){i:Nat}(hi:i<xs.length):
  ∃b off,A=some ⟨b,off,none⟩/\b<w.heap.size/\w.cell? ⟨b,off+i*3,none⟩=some (.int .u8 (xs[i].1.sort.toNat:Int))/\w.cell? ⟨b,off+i*3+1,none⟩=some (.string ⟨xs[i].1.name.toArray⟩) /\
   w.cell? ⟨b,off+i*3+2,none⟩=some xs[i].2:=by
 obtain⟨b,off,e,hlt,hc⟩:=hr.elem Qm1 aL hi;refine⟨b,off,e,hlt,?_,?_,?_⟩
 ·exact hH
 ·exact gM
 have:=hc 2 _ rfl;simpa [Nat.add_assoc]using this
def Ap(fs:List Fd)(n:Nat):Option Fd:=fs.find? fun f=>decide (f.tag=n)
theorem Tr{α:Type}{p:α->Bool}{l:List α}{k:Nat}(hk:k<l.length)(h:∀x∈l.take k,p x=false):l.find? p=if p l[k]=true then some l[k]else(l.drop (k+1)).find? p:=by
 have e:l=l.take k++l[k]::l.drop (k+1):=by rw[<-List.drop_eq_getElem_cons hk,List.take_append_drop]
 conv=>lhs;rw[e]
 rw[List.find?_append];have h1:(l.take k).find? p=none:=List.find?_eq_none.2 (fun x hx=>by simp[h x hx]);rw[h1,Option.none_or,List.find?_cons];cases p l[k]<;>rfl
theorem Ng{α:Type}{p:α->Bool}{l:List α}(h:∀x∈l,p x=false):l.find? p=none:=List.find?_eq_none.2 (fun x hx=>by simp[h x hx])
end Go.Proofs.YtmmhmlmfhpfgbaaGreatDoor
