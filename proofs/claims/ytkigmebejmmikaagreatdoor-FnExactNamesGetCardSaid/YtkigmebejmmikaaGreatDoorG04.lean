/- Texts joined. Conditions: as each theorem names them. -/
import Derived.Test.YtkigmebejmmikaaGreatDoorG03
set_option maxRecDepth 100000
set_option maxHeartbeats 32000000
set_option linter.unusedVariables false
set_option linter.unusedSimpArgs false
namespace Go.Proofs.YtkigmebejmmikaaGreatDoor
open Go.RowKit Go.Proofs.Tryz
inductive SV where
 |mk (kind text:List UInt8) (tags:List Nat) (kids:List SV)
def To(S:List Ty)(k:Kd)(g:Nat):Kd:=match B0 S k.name with
 |some t=>(match Bp t.fields g with|some f=>f.kind|none=>Kd.nil)
 |none=>Kd.nil
mutual
def Cd(S:List Ty):Kd->Vl->SV
 |k,.mk w tx tg ks=>
  if w=91\/w=63 then .mk (Bi k) [] [] (R6 S k.part ks)
  else if w=69 then .mk (Bi k) [69] [tg] []
  else if w=85 then .mk (Bi k) [85] [tg] (R6 S (To S k tg) ks)
  else if w=82 then .mk (Bi k) [82] (ks.map Vl.tag) (Qct S k ks)
  else .mk (Bi k) (if w=116 then 39::(tx++[39])else tx) [] []
def R6(S:List Ty):Kd->List Vl->List SV
 |_,[]=>[]
 |k,x::xs=>Cd S k x::R6 S k xs
def Qct(S:List Ty):Kd->List Vl->List SV
 |_,[]=>[]
 |k,.mk _ _ tg ks::xs=>R6 S (To S k tg) ks++Qct S k xs
end
theorem Pr(S:List Ty)(k:Kd):∀ks:List Vl,R6 S k ks=ks.map (Cd S k)
 |[]=>rfl
 |x::xs=>by rw[R6,Pr S k xs];rfl
theorem Xe(S:List Ty)(k:Kd):∀ps:List (Fd × Vl),Qct S k (ps.map Cw)=ps.map fun p=>Cd S (To S k p.1.tag) p.2
 |[]=>rfl
 |p::ps=>by rw[av,Cw,Qct,Xe S k ps,R6,R6];rfl
theorem Qbk(S:List Ty)(k:Kd)(m:Nat):Cd S k (.mk 110 (Az m) 0 [])=.mk (Bi k) (Az m) [] []:=by simp[Cd]
theorem Yz(S:List Ty)(k:Kd)(s:List UInt8):Cd S k (.mk 116 s 0 [])=.mk (Bi k) (39::(s++[39])) [] []:=by simp[Cd]
theorem Yp(S:List Ty)(k:Kd)(s:List UInt8):Cd S k (.mk 102 s 0 [])=.mk (Bi k) s [] []:=by simp[Cd]
theorem Qv(S:List Ty)(k:Kd)(ks:List Vl):Cd S k (.mk 91 [] 0 ks)=.mk (Bi k) [] [] (ks.map (Cd S k.part)):=by simp[Cd,Pr]
theorem My(S:List Ty)(k:Kd)(ks:List Vl):Cd S k (.mk 63 [] 0 ks)=.mk (Bi k) [] [] (ks.map (Cd S k.part)):=by simp[Cd,Pr]
theorem Q9(S:List Ty)(k:Kd)(g:Nat):Cd S k (.mk 69 [] g [])=.mk (Bi k) [69] [g] []:=by simp[Cd]
theorem Q6(S:List Ty)(k:Kd)(g:Nat)(x:Vl):Cd S k (.mk 85 [] g [x])=.mk (Bi k) [85] [g] [Cd S (To S k g) x]:=by simp[Cd,Pr]
theorem Qy(S:List Ty)(k:Kd)(ps:List (Fd × Vl)):Cd S k (.mk 82 [] 0 (ps.map Cw))=.mk (Bi k) [82] (ps.map fun p=>p.1.tag) (ps.map fun p=>Cd S (To S k p.1.tag) p.2):=by
 simp[Cd,Xe];exact fun _ _ _=>rfl
theorem Ga{S:List Ty}{k:Kd}{t:Ty}{f:Fd}(ht:B0 S k.name=some t)(hf:Bp t.fields f.tag=some f):To S k f.tag=f.kind:=by unfold To;rw[ht];simp only;rw[hf]
def B6(l:List Nat):List Value:=l.map fun(n:Nat)=>.int .i64 (n:Int)
def Cy(l:List Nat):List Value:=l.map fun b=>.pointer (b,0)
inductive Fh(P:Nat->Prop)(w:World):Nat->SV->Prop
 |mk {b:Nat} {v:SV} (kind text:List UInt8) (tags:List Nat) (A1 A2:Option Addr) (c1 c2:Nat) (xs:List (Nat × SV)) (hv:v=.mk kind text tags (xs.map (·.2))) (hb:b<w.heap.size) (hP:P b)
   (h0:w.cell? (b,0)=kind) (h1:w.cell? (b,1)=text) (h2:w.cell? (b,2)=some (.slice A1 tags.length c1)) (h3:w.cell? (b,3)=some (.slice A2 xs.length c2))
   (hr1:B8 w A1 tags.length (B6 tags)) (hr2:B8 w A2 xs.length (Cy (xs.map (·.1)))) (hl1:tags.length<=1000) (hl2:xs.length<=1000) (hp1:∀g o,0<tags.length->A1=some ⟨g,o,none⟩->P g) (hp2:∀g o,0<xs.length->A2=some ⟨g,o,none⟩->P g)
   (h:∀x∈xs,Fh P w x.1 x.2):Fh P w b v
theorem B8.keptP{P:Nat->Prop}{w w':World}{A:Option Addr}{n:Nat}{xs:List Value}(h:B8 w A n xs)(hP:∀g o,0<n->A=some ⟨g,o,none⟩->P g)(hc:∀b o u,P b->b<w.heap.size->w.cell? ⟨b,o,none⟩=some u->w'.cell? ⟨b,o,none⟩=some u)(hz:w.heap.size<=w'.heap.size):B8 w' A n xs:=by
 refine⟨h.1,h.2.1,fun hn=>?_⟩;obtain⟨b,off,e,hlt,hcs⟩:=h.2.2 hn;exact⟨b,off,e,ab hlt hz,fun j u hu=>hc b _ u (hP b off hn e) hlt (hcs j u hu)⟩
theorem Fh.kept{P Q:Nat->Prop}{w w':World}{b:Nat}{v:SV}(h:Fh P w b v)(hc:∀b o u,P b->b<w.heap.size->w.cell? ⟨b,o,none⟩=some u->w'.cell? ⟨b,o,none⟩=some u)
  (hz:w.heap.size<=w'.heap.size) (hQ:∀b,P b->b<w.heap.size->Q b):Fh Q w' b v:=by
 induction h with
 |mk kind text tags A1 A2 c1 c2 xs hv hb hP h0 h1 h2 h3 hr1 hr2 hl1 hl2 hp1 hp2 h ih=>
  refine .mk kind text tags A1 A2 c1 c2 xs hv (ab hb hz) (hQ _ hP hb) (hc _ _ _ hP hb h0) (hc _ _ _ hP hb h1) (hc _ _ _ hP hb h2) (hc _ _ _ hP hb h3) (hr1.keptP hp1 hc hz) (hr2.keptP hp2 hc hz) hl1 hl2 (fun g o hn e=>?_) (fun g o hn e=>?_) ih
  ·obtain⟨b',off,e2,hlt,_⟩:=hr1.2.2 hn;rw[e]at e2;injection e2 with e2;injection e2 with e2 _ _;subst e2;exact hQ g (hp1 g o hn e) hlt
  obtain⟨b',off,e2,hlt,_⟩:=hr2.2.2 hn;rw[e]at e2;injection e2 with e2;injection e2 with e2 _ _;subst e2;exact hQ g (hp2 g o hn e) hlt
theorem Fh.after{P:Nat->Prop}{w w':World}{b:Nat}{v:SV}(h:Fh P w b v)(hb:Below w w w'):Fh P w' b v:=
 h.kept (fun b o u _ hl hu=>(hb.cell (p:=⟨b,o,none⟩) hl).trans hu) hb.size fun _ h _=>h
theorem Fh.mono{P Q:Nat->Prop}{w:World}{b:Nat}{v:SV}(h:Fh P w b v)(hQ:∀b,P b->b<w.heap.size->Q b):Fh Q w b v:=h.kept (fun _ _ _ _ _ hu=>hu) (As _) hQ
theorem Fh.grown{P:Nat->Prop}{w w':World}{b:Nat}{v:SV}{row:Option Nat}(h:Fh P w b v)(hg:w.grownBy w' row)(hne:∀b,P b->some b≠row):Fh P w' b v:=
 h.kept (fun b o u hp _ hu=>hg.cell hu (hne b hp)) hg.size fun _ h _=>h
end Go.Proofs.YtkigmebejmmikaaGreatDoor
