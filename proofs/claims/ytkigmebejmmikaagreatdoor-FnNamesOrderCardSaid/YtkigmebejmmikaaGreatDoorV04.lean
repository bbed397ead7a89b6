/- Texts joined. Conditions: as each theorem names them. -/
import Derived.Test.YtkigmebejmmikaaGreatDoorV03
set_option maxRecDepth 100000
set_option maxHeartbeats 32000000
set_option linter.unusedVariables false
set_option linter.unusedSimpArgs false
namespace Go.Proofs.YtkigmebejmmikaaGreatDoor
open Go.RowKit Go.Proofs.Tryz
inductive SV where
 |mk (kind text:List UInt8) (tags:List Nat) (kids:List SV)
def Fq(S:List Ty)(k:Kd)(g:Nat):Kd:=match B6 S k.name with
 |some t=>(match Bj t.fields g with|some f=>f.kind|none=>Kd.nil)
 |none=>Kd.nil
mutual
def Cj(S:List Ty):Kd->Vl->SV
 |k,.mk w tx tg ks=>
  if w=91\/w=63 then .mk (Bt k) [] [] (Vs S k.part ks)
  else if w=69 then .mk (Bt k) [69] [tg] []
  else if w=85 then .mk (Bt k) [85] [tg] (Vs S (Fq S k tg) ks)
  else if w=82 then .mk (Bt k) [82] (ks.map Vl.tag) (Qhc S k ks)
  else .mk (Bt k) (if w=116 then 39::(tx++[39])else tx) [] []
def Vs(S:List Ty):Kd->List Vl->List SV
 |_,[]=>[]
 |k,x::xs=>Cj S k x::Vs S k xs
def Qhc(S:List Ty):Kd->List Vl->List SV
 |_,[]=>[]
 |k,.mk _ _ tg ks::xs=>Vs S (Fq S k tg) ks++Qhc S k xs
end
theorem Rj(S:List Ty)(k:Kd):∀ks:List Vl,Vs S k ks=ks.map (Cj S k)
 |[]=>rfl
 |x::xs=>by rw[Vs,Rj S k xs];rfl
theorem Qa5(S:List Ty)(k:Kd):∀ps:List (Fd × Vl),Qhc S k (ps.map C5)=ps.map fun p=>Cj S (Fq S k p.1.tag) p.2
 |[]=>rfl
 |p::ps=>by rw[ax,C5,Qhc,Qa5 S k ps,Vs,Vs];rfl
theorem Qcf(S:List Ty)(k:Kd)(m:Nat):Cj S k (.mk 110 (Bb m) 0 [])=.mk (Bt k) (Bb m) [] []:=by simp[Cj]
theorem Za(S:List Ty)(k:Kd)(s:List UInt8):Cj S k (.mk 116 s 0 [])=.mk (Bt k) (39::(s++[39])) [] []:=by simp[Cj]
theorem Yd(S:List Ty)(k:Kd)(s:List UInt8):Cj S k (.mk 102 s 0 [])=.mk (Bt k) s [] []:=by simp[Cj]
theorem Td(S:List Ty)(k:Kd)(ks:List Vl):Cj S k (.mk 91 [] 0 ks)=.mk (Bt k) [] [] (ks.map (Cj S k.part)):=by simp[Cj,Rj]
theorem Ph(S:List Ty)(k:Kd)(ks:List Vl):Cj S k (.mk 63 [] 0 ks)=.mk (Bt k) [] [] (ks.map (Cj S k.part)):=by simp[Cj,Rj]
theorem Th(S:List Ty)(k:Kd)(g:Nat):Cj S k (.mk 69 [] g [])=.mk (Bt k) [69] [g] []:=by simp[Cj]
theorem Qu(S:List Ty)(k:Kd)(g:Nat)(x:Vl):Cj S k (.mk 85 [] g [x])=.mk (Bt k) [85] [g] [Cj S (Fq S k g) x]:=by simp[Cj,Rj]
theorem Sw(S:List Ty)(k:Kd)(ps:List (Fd × Vl)):Cj S k (.mk 82 [] 0 (ps.map C5))=.mk (Bt k) [82] (ps.map fun p=>p.1.tag) (ps.map fun p=>Cj S (Fq S k p.1.tag) p.2):=by
 simp[Cj,Qa5];exact fun _ _ _=>rfl
theorem Cv{S:List Ty}{k:Kd}{t:Ty}{f:Fd}(ht:B6 S k.name=some t)(hf:Bj t.fields f.tag=some f):Fq S k f.tag=f.kind:=by unfold Fq;rw[ht];simp only;rw[hf]
def De(l:List Nat):List Value:=l.map fun(n:Nat)=>.int .i64 (n:Int)
def E8(l:List Nat):List Value:=l.map fun b=>.pointer (b,0)
inductive Gx(P:Nat->Prop)(w:World):Nat->SV->Prop
 |mk {b:Nat} {v:SV} (kind text:List UInt8) (tags:List Nat) (A1 A2:Option Addr) (c1 c2:Nat) (xs:List (Nat × SV)) (hv:v=.mk kind text tags (xs.map (·.2))) (hb:b<w.heap.size) (hP:P b)
   (h0:w.cell? (b,0)=kind) (h1:w.cell? (b,1)=text) (h2:w.cell? (b,2)=some (.slice A1 tags.length c1)) (h3:w.cell? (b,3)=some (.slice A2 xs.length c2))
   (hr1:Bh w A1 tags.length (De tags)) (hr2:Bh w A2 xs.length (E8 (xs.map (·.1)))) (hl1:tags.length<=1000) (hl2:xs.length<=1000) (hp1:∀g o,0<tags.length->A1=some ⟨g,o,none⟩->P g) (hp2:∀g o,0<xs.length->A2=some ⟨g,o,none⟩->P g)
   (h:∀x∈xs,Gx P w x.1 x.2):Gx P w b v
theorem Bh.keptP{P:Nat->Prop}{w w':World}{A:Option Addr}{n:Nat}{xs:List Value}(h:Bh w A n xs)(hP:∀g o,0<n->A=some ⟨g,o,none⟩->P g)(hc:∀b o u,P b->b<w.heap.size->w.cell? ⟨b,o,none⟩=some u->w'.cell? ⟨b,o,none⟩=some u)(hz:w.heap.size<=w'.heap.size):Bh w' A n xs:=by
 refine⟨h.1,h.2.1,fun hn=>?_⟩;obtain⟨b,off,e,hlt,hcs⟩:=h.2.2 hn;exact⟨b,off,e,ac hlt hz,fun j u hu=>hc b _ u (hP b off hn e) hlt (hcs j u hu)⟩
theorem Gx.kept{P Q:Nat->Prop}{w w':World}{b:Nat}{v:SV}(h:Gx P w b v)(hc:∀b o u,P b->b<w.heap.size->w.cell? ⟨b,o,none⟩=some u->w'.cell? ⟨b,o,none⟩=some u)
  (hz:w.heap.size<=w'.heap.size) (hQ:∀b,P b->b<w.heap.size->Q b):Gx Q w' b v:=by
 induction h with
 |mk kind text tags A1 A2 c1 c2 xs hv hb hP h0 h1 h2 h3 hr1 hr2 hl1 hl2 hp1 hp2 h ih=>
  refine .mk kind text tags A1 A2 c1 c2 xs hv (ac hb hz) (hQ _ hP hb) (hc _ _ _ hP hb h0) (hc _ _ _ hP hb h1) (hc _ _ _ hP hb h2) (hc _ _ _ hP hb h3) (hr1.keptP hp1 hc hz) (hr2.keptP hp2 hc hz) hl1 hl2 (fun g o hn e=>?_) (fun g o hn e=>?_) ih
  ·obtain⟨b',off,e2,hlt,_⟩:=hr1.2.2 hn;rw[e]at e2;injection e2 with e2;injection e2 with e2 _ _;subst e2;exact hQ g (hp1 g o hn e) hlt
  obtain⟨b',off,e2,hlt,_⟩:=hr2.2.2 hn;rw[e]at e2;injection e2 with e2;injection e2 with e2 _ _;subst e2;exact hQ g (hp2 g o hn e) hlt
theorem Gx.after{P:Nat->Prop}{w w':World}{b:Nat}{v:SV}(h:Gx P w b v)(hb:Below w w w'):Gx P w' b v:=
 h.kept (fun b o u _ hl hu=>(hb.cell (p:=⟨b,o,none⟩) hl).trans hu) hb.size fun _ h _=>h
theorem Gx.mono{P Q:Nat->Prop}{w:World}{b:Nat}{v:SV}(h:Gx P w b v)(hQ:∀b,P b->b<w.heap.size->Q b):Gx Q w b v:=h.kept (fun _ _ _ _ _ hu=>hu) (Ar _) hQ
theorem Gx.grown{P:Nat->Prop}{w w':World}{b:Nat}{v:SV}{row:Option Nat}(h:Gx P w b v)(hg:w.grownBy w' row)(hne:∀b,P b->some b≠row):Gx P w' b v:=
 h.kept (fun b o u hp _ hu=>hg.cell hu (hne b hp)) hg.size fun _ h _=>h
end Go.Proofs.YtkigmebejmmikaaGreatDoor
