/- Texts joined. Conditions: as each theorem names them. -/
import Derived.Test.YtpjijpcemejlnaaGreatDoorM03
set_option maxRecDepth 100000
set_option maxHeartbeats 32000000
set_option linter.unusedVariables false
set_option linter.unusedSimpArgs false
namespace Go.Proofs.YtpjijpcemejlnaaGreatDoor
open Go.RowKit Go.Proofs.Tryz
inductive SV where
 |mk (kind text:List UInt8) (tags:List Nat) (kids:List SV)
def Ts(S:List Ty)(k:Kd)(g:Nat):Kd:=match Bw S k.name with
 |some t=>(match Bf t.fields g with|some f=>f.kind|none=>Kd.nil)
 |none=>Kd.nil
mutual
def B6(S:List Ty):Kd->Vl->SV
 |k,.mk w tx tg ks=>
  if w=91\/w=63 then .mk (Bn k) [] [] (Sp S k.part ks)
  else if w=69 then .mk (Bn k) [69] [tg] []
  else if w=85 then .mk (Bn k) [85] [tg] (Sp S (Ts S k tg) ks)
  else if w=82 then .mk (Bn k) [82] (ks.map Vl.tag) (Qd7 S k ks)
  else .mk (Bn k) (if w=116 then 39::(tx++[39])else tx) [] []
def Sp(S:List Ty):Kd->List Vl->List SV
 |_,[]=>[]
 |k,x::xs=>B6 S k x::Sp S k xs
def Qd7(S:List Ty):Kd->List Vl->List SV
 |_,[]=>[]
 |k,.mk _ _ tg ks::xs=>Sp S (Ts S k tg) ks++Qd7 S k xs
end
theorem Pu(S:List Ty)(k:Kd):∀ks:List Vl,Sp S k ks=ks.map (B6 S k)
 |[]=>rfl
 |x::xs=>by rw[Sp,Pu S k xs];rfl
theorem Yc(S:List Ty)(k:Kd):∀ps:List (Fd × Vl),Qd7 S k (ps.map Dk)=ps.map fun p=>B6 S (Ts S k p.1.tag) p.2
 |[]=>rfl
 |p::ps=>by rw[ay,Dk,Qd7,Yc S k ps,Sp,Sp];rfl
theorem Z5(S:List Ty)(k:Kd)(m:Nat):B6 S k (.mk 110 (Aw m) 0 [])=.mk (Bn k) (Aw m) [] []:=by simp[B6]
theorem Xb(S:List Ty)(k:Kd)(s:List UInt8):B6 S k (.mk 116 s 0 [])=.mk (Bn k) (39::(s++[39])) [] []:=by simp[B6]
theorem Xf(S:List Ty)(k:Kd)(s:List UInt8):B6 S k (.mk 102 s 0 [])=.mk (Bn k) s [] []:=by simp[B6]
theorem Qw(S:List Ty)(k:Kd)(ks:List Vl):B6 S k (.mk 91 [] 0 ks)=.mk (Bn k) [] [] (ks.map (B6 S k.part)):=by simp[B6,Pu]
theorem Mv(S:List Ty)(k:Kd)(ks:List Vl):B6 S k (.mk 63 [] 0 ks)=.mk (Bn k) [] [] (ks.map (B6 S k.part)):=by simp[B6,Pu]
theorem Q8(S:List Ty)(k:Kd)(g:Nat):B6 S k (.mk 69 [] g [])=.mk (Bn k) [69] [g] []:=by simp[B6]
theorem N3(S:List Ty)(k:Kd)(g:Nat)(x:Vl):B6 S k (.mk 85 [] g [x])=.mk (Bn k) [85] [g] [B6 S (Ts S k g) x]:=by simp[B6,Pu]
theorem Qu(S:List Ty)(k:Kd)(ps:List (Fd × Vl)):B6 S k (.mk 82 [] 0 (ps.map Dk))=.mk (Bn k) [82] (ps.map fun p=>p.1.tag) (ps.map fun p=>B6 S (Ts S k p.1.tag) p.2):=by
 simp[B6,Yc];exact fun _ _ _=>rfl
theorem Gr{S:List Ty}{k:Kd}{t:Ty}{f:Fd}(ht:Bw S k.name=some t)(hf:Bf t.fields f.tag=some f):Ts S k f.tag=f.kind:=by unfold Ts;rw[ht];simp only;rw[hf]
def Dj(l:List Nat):List Value:=l.map fun(n:Nat)=>.int .i64 (n:Int)
def D9(l:List Nat):List Value:=l.map fun b=>.pointer (b,0)
inductive Gb(P:Nat->Prop)(w:World):Nat->SV->Prop
 |mk {b:Nat} {v:SV} (kind text:List UInt8) (tags:List Nat) (A1 A2:Option Addr) (c1 c2:Nat) (xs:List (Nat × SV)) (hv:v=.mk kind text tags (xs.map (·.2))) (hb:b<w.heap.size) (hP:P b)
   (h0:w.cell? (b,0)=kind) (h1:w.cell? (b,1)=text) (h2:w.cell? (b,2)=some (.slice A1 tags.length c1)) (h3:w.cell? (b,3)=some (.slice A2 xs.length c2))
   (hr1:Bj w A1 tags.length (Dj tags)) (hr2:Bj w A2 xs.length (D9 (xs.map (·.1)))) (hl1:tags.length<=1000) (hl2:xs.length<=1000) (hp1:∀g o,0<tags.length->A1=some ⟨g,o,none⟩->P g) (hp2:∀g o,0<xs.length->A2=some ⟨g,o,none⟩->P g)
   (h:∀x∈xs,Gb P w x.1 x.2):Gb P w b v
theorem Bj.keptP{P:Nat->Prop}{w w':World}{A:Option Addr}{n:Nat}{xs:List Value}(h:Bj w A n xs)(hP:∀g o,0<n->A=some ⟨g,o,none⟩->P g)(hc:∀b o u,P b->b<w.heap.size->w.cell? ⟨b,o,none⟩=some u->w'.cell? ⟨b,o,none⟩=some u)(hz:w.heap.size<=w'.heap.size):Bj w' A n xs:=by
 refine⟨h.1,h.2.1,fun hn=>?_⟩;obtain⟨b,off,e,hlt,hcs⟩:=h.2.2 hn;exact⟨b,off,e,ad hlt hz,fun j u hu=>hc b _ u (hP b off hn e) hlt (hcs j u hu)⟩
theorem Gb.kept{P Q:Nat->Prop}{w w':World}{b:Nat}{v:SV}(h:Gb P w b v)(hc:∀b o u,P b->b<w.heap.size->w.cell? ⟨b,o,none⟩=some u->w'.cell? ⟨b,o,none⟩=some u)
  (hz:w.heap.size<=w'.heap.size) (hQ:∀b,P b->b<w.heap.size->Q b):Gb Q w' b v:=by
 induction h with
 |mk kind text tags A1 A2 c1 c2 xs hv hb hP h0 h1 h2 h3 hr1 hr2 hl1 hl2 hp1 hp2 h ih=>
  refine .mk kind text tags A1 A2 c1 c2 xs hv (ad hb hz) (hQ _ hP hb) (hc _ _ _ hP hb h0) (hc _ _ _ hP hb h1) (hc _ _ _ hP hb h2) (hc _ _ _ hP hb h3) (hr1.keptP hp1 hc hz) (hr2.keptP hp2 hc hz) hl1 hl2 (fun g o hn e=>?_) (fun g o hn e=>?_) ih
  ·obtain⟨b',off,e2,hlt,_⟩:=hr1.2.2 hn;rw[e]at e2;injection e2 with e2;injection e2 with e2 _ _;subst e2;exact hQ g (hp1 g o hn e) hlt
  obtain⟨b',off,e2,hlt,_⟩:=hr2.2.2 hn;rw[e]at e2;injection e2 with e2;injection e2 with e2 _ _;subst e2;exact hQ g (hp2 g o hn e) hlt
theorem Gb.after{P:Nat->Prop}{w w':World}{b:Nat}{v:SV}(h:Gb P w b v)(hb:Below w w w'):Gb P w' b v:=
 h.kept (fun b o u _ hl hu=>(hb.cell (p:=⟨b,o,none⟩) hl).trans hu) hb.size fun _ h _=>h
theorem Gb.mono{P Q:Nat->Prop}{w:World}{b:Nat}{v:SV}(h:Gb P w b v)(hQ:∀b,P b->b<w.heap.size->Q b):Gb Q w b v:=h.kept (fun _ _ _ _ _ hu=>hu) (Ao _) hQ
theorem Gb.grown{P:Nat->Prop}{w w':World}{b:Nat}{v:SV}{row:Option Nat}(h:Gb P w b v)(hg:w.grownBy w' row)(hne:∀b,P b->some b≠row):Gb P w' b v:=
 h.kept (fun b o u hp _ hu=>hg.cell hu (hne b hp)) hg.size fun _ h _=>h
def C0(s d:List UInt8):Option (List Ty × Kd):=
 match Bz s with
 |none=>none
 |some S=>match Ck d with
  |none=>none
  |some k=>if B9 S k then some (S,k)else none
theorem Qdj{s d:List UInt8}{S:List Ty}{k:Kd}(h:C0 s d=some (S,k)):Bz s=some S/\Ck d=some k/\B9 S k:=by
 unfold C0 at h
 cases h1:Bz s with
 |none=>rw[h1]at h;cases h
 |some T=>cases h2:Ck d with
  |none=>rw[h1,h2]at h;cases h
  |some q=>
   rw[h1,h2]at h
   simp only at h
   split at h
   ·rename_i hr
    simp only[Option.some.injEq,Prod.mk.injEq]at h
    obtain⟨rfl,rfl⟩:=h
    exact⟨rfl,rfl,hr⟩
   cases h
theorem M5{s d:List UInt8}{S:List Ty}{k:Kd}(h:C0 s d=some (S,k)):Nn S/\s.length<=400/\scB S=s/\Cu k/\Bn k=d/\B9 S k:=by
 obtain⟨h1,h2,h3⟩:=Qdj h
 obtain⟨a1,a2,a3⟩:=Qx.1 h1
 obtain⟨b1,b2⟩:=En.1 h2
 exact⟨a1,a2,a3,b1,b2,h3⟩
end Go.Proofs.YtpjijpcemejlnaaGreatDoor
