/- Texts joined. Conditions: as each theorem names them. -/
import Derived.Test.YtkigmebejmmikaaGreatDoorQ03
import Derived.Test.YtkigmebejmmikaaGreatDoorQ04
import Derived.Test.YtkigmebejmmikaaGreatDoorQ05
import Derived.Test.YtkigmebejmmikaaGreatDoorQ07
import Derived.Test.YtkigmebejmmikaaGreatDoorQ10
set_option maxRecDepth 100000
set_option maxHeartbeats 32000000
set_option linter.unusedVariables false
set_option linter.unusedSimpArgs false
namespace Go.Proofs.YtkigmebejmmikaaGreatDoor
open Go.RowKit Go.Proofs.Tryz
def Tc(o:Option (List Ty × Kd))(x:List UInt8):Option Vl:=match o with
 |some y=>Jr y.1 y.2 x
 |none=>none
theorem Vy{s d x:List UInt8}{v:Vl}(h:Tc (C5 s d) x=some v):∃S k,C5 s d=some (S,k)/\P5 S/\Co k/\Cb S k/\Bq k=d/\Jo S 12 k v/\Az v=x/\x.length<=400:=by
 cases hb:C5 s d with
 |none=>rw[hb]at h;cases h
 |some y=>
  obtain⟨S,k⟩:=y
  rw[hb]at h
  obtain⟨g1,_,_,g4,g5,g6⟩:=P1 hb
  obtain⟨h1,h2,h3⟩:=(Mm g1.1.1 g4).1 h
  exact⟨S,k,rfl,g1,g4,g6,g5,h1,h2,h3⟩
def Kv(w0:World)(cs:List Value)(la ls:Bool)(ua:Value)(W:World):Prop:=
 Below w0.heap.size w0 W/\(ls=true->la=true)/\(la=true->∃b,ua=.pointer (some ⟨b,0,none⟩)/\w0.heap.size<=b/\b<W.heap.size/\W.there b 0 cs.length/\(ls=true->W.rangeAt b 0 cs))
section
variable {w0 W W':World} {cs:List Value} {la ls:Bool} {ua:Value}
theorem Kv.start{us:List Value}:Kv w0 us false false ua w0.drew:=⟨(As _ _).drew,by simp,by simp⟩
theorem Kv.below(h:Kv w0 cs la ls ua W)(hb:Below W.heap.size W W'):Kv w0 cs la ls ua W':=by
 refine⟨h.1.trans (hb.mono h.1.size),h.2.1,fun hl=>?_⟩
 obtain⟨b,e,h1,h2,h3,h4⟩:=h.2.2 hl
 exact⟨b,e,h1,Nat.lt_of_lt_of_le h2 hb.size,At h3 h2 hb,fun hs=>Ar (h4 hs) h2 hb⟩
theorem Kv.alloc(h:Kv w0 cs false ls ua W)(zs:List Value)(hz:zs.length=cs.length)(T:TypeId):Kv w0 cs true ls (.pointer (some ⟨W.heap.size,0,none⟩)) (W.alloc (.cells zs.toArray T)):=by
 have hs:ls=false:=by cases hq:ls with|false=>rfl|true=>exact absurd (h.2.1 hq) (by decide)
 subst hs
 exact⟨h.1.alloc h.1.size _,by simp,fun _=>⟨_,rfl,h.1.size,by simp,by rw[<-hz];exact Cw W zs T,by simp⟩⟩
theorem Kv.store(h:Kv w0 cs la ls ua W){b:Nat}(hl:la=true)(e:ua=.pointer (some ⟨b,0,none⟩)):Kv w0 cs la true ua (W.setCells b 0 cs):=by
 obtain⟨b',e',h1,h2,h3,_⟩:=h.2.2 hl
 rw[e]at e'
 injection e' with e';injection e' with e';injection e' with e'
 subst e'
 exact⟨Ah _ h1 _ _ _ h.1,fun _=>hl,fun _=>⟨b,e,h1,by rw[Cy];exact h2,World.there_setCells h3 _ _ _,fun _=>World.rangeAt_setCells_same _ _ _ _ h3⟩⟩
end
section
variable {P:Program} {ops:Array Oper} {Q:Exit->Act->World->Prop} {a:Act} {mk:(Nat->Value)->Act} {R:(Nat->Bool)->(Nat->Value)->World->Prop} {G:World->Prop} {o:Oper} {os:List Oper} {i:Nat} {ps:List (Value->Prop)} {v:Value}
theorem sqB{C:World->Prop}{n:Nat}{w:World}(hB:∀l u W,R l u W->Below n w W)(hst:∀l u W W',R l u W->Below W.heap.size W W'->R l u W')(X:∀W,Below n w W->C W)(k:Sq P ops Q a mk R G os (i+1) (ps++[fun x=>x=v]))
  (h:(∀l u W,R l u W->Below n w W)->(∀l u W W',R l u W->Below W.heap.size W W'->R l u W')->(∀W,Below n w W->C W)->St P ops Q a mk R G i o ps (fun x=>x=v):=by
  intro hB hst X l u W hl hp hF hG hi K hK
  have HX:=X W (hB _ _ _ hF.o)
  first|unfold Ei at hG|skip
  first|(simp[Region.binds,C7]at hp;done)|simp[Region.binds,C7]at hp|clear hp
  clear hB
  have Hst:=Aa hst
  clear hst X
  go_simp
  refine HX.mono ?_
  rintro e w' ⟨rfl,hb⟩
  exact hK _ _ _ rfl (Hst.o _ _ _ _ hF.o hb) (by first|rfl|(simp[Act.put,hp];done)|(simp[Act.put,hp];exact rfl))):Sq P ops Q a mk R G (o::os) i ps:=⟨_,h hB hst X,k⟩
end
section
attribute [local go_sem] Qja Qit Qib Qgw ByteArray.mk_append_mk
def Qbe(o:Option (List UInt8))(w:World)(e:Ending)(w':World):Prop:=e=.returned (.tuple #[.string ⟨(o.getD []).toArray⟩,.bool o.isSome])/\Below w.heap.size w w'
theorem J7.cases{s d x:List UInt8}{w w1:World}{e:Ending}(h:J7 s d x w e w1):Below w.heap.size w w1/\((Tc (C5 s d) x=none/\∃(v:Value) (q:Option Addr),e=.returned (.tuple #[v,.pointer q,.bool false])) \/
  ∃S k v xv xs b,C5 s d=some (S,k)/\Tc (C5 s d) x=some v/\e=.returned (.tuple #[xv,.pointer (some ⟨b,0,none⟩),.bool true])/\Al xs=S/\Kf w1 xv xs/\Ga (fun c=>w.heap.size<=c) w1 b (Cq S k v)):=by
 obtain⟨hb1,hm⟩:=h
 refine⟨hb1,?_⟩
 cases hb:C5 s d with
 |none=>
  rw[hb]at hm
  obtain⟨v,q,he⟩:=hm
  exact .inl ⟨rfl,v,q,he⟩
 |some y=>
  rw[hb]at hm
  simp only at hm
  cases hv:Jr y.1 y.2 x with
  |none=>
   rw[hv]at hm
   obtain⟨v,q,he⟩:=hm
   exact .inl ⟨hv,v,q,he⟩
  |some v=>
   rw[hv]at hm
   obtain⟨xv,xs,b,he,h1,h2,hat⟩:=hm
   exact .inr ⟨y.1,y.2,v,xv,xs,b,rfl,hv,he,h1,h2,hat⟩
theorem Qcs{o:Option (List Ty × Kd)}{x:List UInt8}{f:List Ty->Kd->Vl->Option (List UInt8)}(h:Tc o x=none):vlB o x f=none:=by
 cases o with
 |none=>rfl
 |some y=>have h:Jr y.1 y.2 x=none:=h;simp[vlB,h]
end
section
open Go.RowKit Go.Sort
attribute [local go_sem] Qja Qit Qib Qgw ByteArray.mk_append_mk
def Qi4(bo:Option (List Ty × Kd))(x:List UInt8)(w:World)(e:Ending)(w':World):Prop:=
 (∃p k1 k2 k3 v sl,e=.returned (.tuple #[.pointer p,.agg #[.string k1,.string k2,.string k3],G1 v sl,.bool (Tc bo x).isSome])/\D8 (fun c=>w.heap.size<=c) w' sl v.kids /\
  ∀y,Tc bo x=some y->v=y/\∃S k xs,bo=some (S,k)/\Ag xs=S/\k1=⟨k.signs.toArray⟩/\k2=⟨k.base.toArray⟩/\k3=⟨k.name.toArray⟩/\Qn w' (.pointer p) xs)/\Below w.heap.size w w'
theorem T6{xs:List PT}{n:Cl}{t:Ty}(h:By (Ag xs) n=some t):∃x,Ej xs n=some x/\x.ty=t:=by
 rw[Gb]at h
 cases hq:Ej xs n with
 |none=>rw[hq]at h;cases h
 |some x=>rw[hq]at h;injection h with h;exact⟨x,rfl,h⟩
theorem Si{α:Type}(g h:α->List UInt8):∀l:List α,(∀y∈l,(g y).length<=20*(h y).length)->Cu (l.map g)<=20*Cu (l.map h)
 |[],_=>by simp[Cu]
 |y::l,H=>by
  rw[List.map_cons,List.map_cons,Cv,Cv]
  have:=H y (by simp)
  have:=Si g h l fun z hz=>H z (by simp[hz])
  omega
theorem Qc9{l m:List (List UInt8)}(h:l.Perm m):Cu l=Cu m:=by
 induction h with
 |nil=>rfl
 |cons x _ ih=>rw[Cv,Cv,ih]
 |swap x y l=>rw[Cv,Cv,Cv,Cv];omega
 |trans _ _ h1 h2=>exact h1.trans h2
theorem N5{S:List Ty}(hS:∀t∈S,Dc t){k:Kd}{t:Ty}{f:Fd}(ht:By S k.name=some t)(hf:Bg t.fields f.tag=some f):(Ed S k f.tag).length<=3:=by
 rw[Eu ht hf]
 have hfo:=((hS t (Bs ht).1).2.2.1.1 f (Bk hf).2).2.2.1
 exact(C9.1 hfo).2.1
theorem Qg{S:List Ty}(hS:∀t∈S,Dc t):∀(d:Nat) (k:Kd) (v:Vl),Jo S d k v->(Gs S d k v).length<=20*(Az v).length:=by
 intro d
 induction d with
 |zero=>intro k v h;cases h
 |succ d ih=>
  intro k v h
  cases h with
  |n hs hb h=>simp[Gs,Vl.what];omega
  |t hs hb h=>simp[Gs,Vl.what];omega
  |f hs hb=>simp[Gs,Vl.what];omega
  |@lst _ _ r ks hs hl h=>
   have h1:=Si (Gs S d k.part) Az ks fun x hx=>ih _ _ (h x hx)
   rw[D5]
   have e1:=Bb 44 (ks.map Az)
   have e2:=Bb 44 (ks.map (Gs S d k.part))
   simp[Gs,Vl.what,Vl.kids,E8]
   omega
  |non hs=>simp[Gs,Vl.what,Vl.kids,V7,D5,E8]
  |@som _ _ r x hs h=>
   have h1:=ih _ _ h
   rw[D5]
   simp[Gs,Vl.what,Vl.kids,E8,Ak]
   omega
  |@enm _ _ t f hs hb ht h9 hf=>
   have:=N5 hS ht hf
   rw[D5]
   simp[Gs,Vl.what,Vl.tag,E8]
   omega
  |@uni _ _ t f x hs hb ht h5 hf h=>
   have:=N5 hS ht hf
   have h1:=ih _ _ h
   have e:=Dn ht hf
   rw[D5]
   simp[Gs,Vl.what,Vl.tag,Vl.kids,E8,Ak,M2,e]
   omega
  |@rcd _ _ t fs hs hb ht h2 hf h hn hp=>
   rw[D5]
   have h1:=Si (fun y=>Ed S k y.tag++58::Gs S d (Fl S k y.tag) (M2 y)) Az (fs.map Dg) fun y hy=>by
    obtain⟨p,hp2,rfl⟩:=List.mem_map.1 hy
    have:=N5 hS ht (hf p hp2)
    have h1:=ih _ _ (h p hp2)
    have e:=Dn ht (hf p hp2)
    have e1:(Dg p).tag=p.1.tag:=rfl
    have e2:M2 (Dg p)=p.2:=rfl
    rw[e1,e2,e,show Az (Dg p)=_ from D5 _ _ _ _]
    simp[E8,Ak]
    omega
   have h3:=Qc9 ((Gr (fun y:Vl=>Ed S k y.tag) (fs.map Dg)).map fun y=>Ed S k y.tag++58::Gs S d (Fl S k y.tag) (M2 y))
   simp only[Gs,Vl.what,Vl.kids,E8,byN]
   simp[Bb]
   simp only[List.map_map]at h1 h3 ⊢
   omega
def Jt(S:List Ty):Nat->Kd->Vl->List UInt8
 |0,_,_=>[]
 |d+1,k,v=>
  if v.what=85 then 123::(Ed S k v.tag++58::(Jt S d (Fl S k v.tag) (M2 v)++[125]))
  else if v.what=63 then(if k.part.signs.head?=some 63 then[]else match v.kids with|[]=>V7|x::_=>Jt S d k.part x)
  else if Cj S (d+1) k v=true then Gs S (d+1) k v else[]
theorem Qbn{S:List Ty}:∀{d:Nat} {k:Kd} {v:Vl},Jo S d k v->Cj S d k v=true->Jt S d k v=Gs S d k v:=by
 intro d
 induction d with
 |zero=>intro k v h;cases h
 |succ d ih=>
  intro k v h ho
  cases h with
  |n hs hb h=>simp[Jt,Cj,Vl.what]
  |t hs hb h=>simp[Jt,Cj,Vl.what]
  |f hs hb=>simp[Jt,Cj,Vl.what]
  |@lst _ _ r ks hs hl h=>
   unfold Jt
   rw[ho]
   simp[Vl.what]
  |@non _ _ r hs=>
   simp[Cj,Vl.what,Vl.kids]at ho
   simp[Jt,Gs,Vl.what,Vl.kids,ho]
  |@som _ _ r x hs h=>
   simp[Cj,Vl.what,Vl.kids]at ho
   simp[Jt,Gs,Vl.what,Vl.kids,ho.1,ih h ho.2]
  |enm hs hb ht h9 hf=>simp[Jt,Cj,Vl.what]
  |@uni _ _ t f x hs hb ht h5 hf h=>
   have e:=Dn ht hf
   simp[Cj,Vl.what,Vl.kids,Vl.tag,e]at ho
   simp[Jt,Gs,Vl.what,Vl.kids,Vl.tag,e,M2,ih h ho]
  |@rcd _ _ t fs hs hb ht h2 hf h hn hp=>
   unfold Jt
   rw[ho]
   simp[Vl.what]
theorem Jg{S:List Ty}{d:Nat}{k:Kd}{v:Vl}(h5:v.what≠85)(h3:v.what≠63):Jt S (d+1) k v=if Cj S (d+1) k v=true then Gs S (d+1) k v else[]:=by
 conv=>lhs;unfold Jt
 rw[if_neg h5,if_neg h3]
theorem N9{S:List Ty}(hS:∀t∈S,Dc t){d:Nat}{k:Kd}{v:Vl}(h:Jo S (d+1) k v)(h5:v.what≠85)(h3:v.what≠63):(Jt S (d+1) k v).length<=20*(Az v).length:=by
 rw[Jg h5 h3]
 split
 ·exact Qg hS _ _ _ h
 simp
theorem Y6{S:List Ty}(hS:∀t∈S,Dc t):∀{d:Nat} {k:Kd} {v:Vl},Jo S d k v->(Jt S d k v).length<=20*(Az v).length:=by
 intro d
 induction d with
 |zero=>intro k v h;cases h
 |succ d ih=>
  intro k v h
  have hT:=Qg hS _ _ _ h
  have H:=h
  cases h with
  |n hs hb h=>exact N9 hS H (by simp[Vl.what]) (by simp[Vl.what])
  |t hs hb h=>exact N9 hS H (by simp[Vl.what]) (by simp[Vl.what])
  |f hs hb=>exact N9 hS H (by simp[Vl.what]) (by simp[Vl.what])
  |@lst _ _ r ks hs hl h=>exact N9 hS H (by simp[Vl.what]) (by simp[Vl.what])
  |non hs=>simp only[Jt,Vl.what,Vl.kids];simp;split;simp;simpa [Gs,Vl.what,Vl.kids]using hT
  |@som _ _ r x hs h=>
   have h1:=ih h
   rw[D5]
   simp[Jt,Vl.what,Vl.kids,E8,Ak]
   split
   ·simp
   omega
  |@enm _ _ t f hs hb ht h9 hf=>exact N9 hS H (by simp[Vl.what]) (by simp[Vl.what])
  |@uni _ _ t f x hs hb ht h5 hf h=>
   have:=N5 hS ht hf
   have h1:=ih h
   have e:=Dn ht hf
   rw[D5]
   simp[Jt,Vl.what,Vl.tag,Vl.kids,E8,Ak,M2,e]
   omega
  |@rcd _ _ t fs hs hb ht h2 hf h hn hp=>exact N9 hS H (by simp[Vl.what]) (by simp[Vl.what])
theorem Jx{p:List UInt8}:∀{l:List (List UInt8)},p∈l->p.length+1<=Cu l
 |x::xs,h=>by
  rw[Cv]
  rcases List.mem_cons.1 h with rfl|h
  ·omega
  have:=Jx h;omega
theorem Qdz{S:List Ty}(hS:∀t∈S,Dc t):∀(d:Nat) (k:Kd) (v:Vl),Jo S d k v->(Az v).length<=900000->Bd v:=by
 intro d
 induction d with
 |zero=>intro k v h;cases h
 |succ d ih=>
  intro k v h hl
  cases h with
  |@n _ _ m hs hb h=>exact .mk (by omega) (by simp[Cu]) (by simp[Az,Dx,E8]at hl;omega) (by simp)
  |@t _ _ s hs hb h=>exact .mk (by omega) (by simp[Cu]) (by simp[Az,Dx,E8]at hl;omega) (by simp)
  |@f _ _ x hs hb=>exact .mk (by omega) (by simp[Cu]) (by cases x<;>decide) (by simp)
  |@lst _ _ r ks hs hl2 h=>
   rw[Fr]at hl
   simp only[List.length_cons,List.length_append,Bb,List.length_nil]at hl
   exact .mk (by omega) (by omega) (by simp) fun x hx=>ih _ x (h x hx) (by have:=Jx (List.mem_map_of_mem (f:=Az) hx);omega)
  |@non _ _ r hs=>exact .mk (by omega) (by simp[Cu]) (by simp) (by simp)
  |@som _ _ r x hs h=>
   have hx:(Az x).length<=900000:=by simp[Az,Dx,E8,Ak]at hl;omega
   exact .mk (by omega) (by simp[Cu];omega) (by simp) fun y hy=>by rw[List.mem_singleton]at hy;subst hy;exact ih _ _ h hx
  |@enm _ _ t f hs hb ht h9 hf=>exact .mk (by have:=((hS t (Bs ht).1).2.2.1.1 f (Bk hf).2).2.1;omega) (by simp[Cu]) (by simp) (by simp)
  |@uni _ _ t f x hs hb ht h5 hf h=>
   have hx:(Az x).length<=900000:=by simp[Az,Dx,E8,Ak]at hl;omega
   exact .mk (by have:=(Ph hS ht (by rw[h5];decide) (Bk hf).2).2;omega) (by simp[Cu];omega) (by simp) fun y hy=>by rw[List.mem_singleton]at hy;subst hy;exact ih _ _ h hx
  |@rcd _ _ t fs hs hb ht h2 hf h hn hp=>
   rw[Pa]at hl
   simp only[List.length_cons,List.length_append,Bb,List.length_nil]at hl
   refine .mk (by omega) (by rw[List.map_map];show Cu (fs.map fun p=>Az (Dg p))<=_;omega) (by simp) fun y hy=>?_
   obtain⟨p,hp',rfl⟩:=List.mem_map.1 hy
   have h3:=Jx (List.mem_map_of_mem (f:=fun p=>Az (Dg p)) hp')
   simp only[Pb]at h3
   have h4:=(Ph hS ht (by rw[h2];decide) (Bk (hf p hp')).2).2
   exact .mk (by omega) (by simp[Cu];omega) (by simp) fun y hy=>by rw[List.mem_singleton]at hy;subst hy;exact ih _ _ (h p hp') (by omega)
end
section
variable {P:Program}
theorem Qj(W:World){o:Oper}{a:Act}{K:Act->World->Prop}{Q:Exit->Act->World->Prop}(s x:Operand)(t:TypeId)
  (ho:o.op=.call {callee:=.builtin .append,args:=#[s,x],argTypes:=#[t,t]})
  (base:Nat) (e:TypeId) (z:Value) (k bytes:Nat) (ht:P.underlying t=some (.slice e)) (hinfo:(P.info? e).map (fun i=>(i.zero,i.size,i.bytes))=some (some z,k,bytes))
  (hzs:z.cells.size=k) (hk:0<k) (us:List Value) (hul:us.length=k) (hu:∀u∈us,u.oneCell'=true) (v:Value) (n:Nat) (xs:List Value) (hs:a.eval s=v) (hx:a.eval x=.slice (some ⟨W.heap.size,0,none⟩) 1 1)
  (hown:W.ownsRow base e k v n xs) (h63:n+1<=maxLen) (hbytes:(n+1)*bytes<=140737488355328) (hbase:base<=W.heap.size)
  (h:∀v' w',w'.ownsRow base e k v' (n+1) (xs++us)->W.grownBy w' v.ownBlock->(v'.ownBlock=v.ownBlock\/∃k,v'.ownBlock=some k/\W.heap.size<=k)->K (a.put o.dst v') w'):Oper.wp P o a (W.alloc (.cells us.toArray e)) K Q:=by
 obtain⟨i0,hi,hz0,hz1,hz2⟩:=info_parts hinfo
 obtain⟨v',w',hrun,r1,r2,r3⟩:=G9 (P:=P) (W.alloc (.cells us.toArray e)) base t o.type e i0 z k bytes ht hi hz0 hz1 hz2 hzs hk v n xs (hown.alloc _) ⟨W.heap.size,0,none⟩ 1 1 us (by omega) (by
  intro j y hj
  have e1:(⟨W.heap.size,0,none⟩:Addr).add j=⟨W.heap.size,j,none⟩:=by unfold Addr.add;split<;>simp_all
  rw[e1,World.cell?_alloc_new]
  simpa using hj) hu (by decide) h63 hbytes (by simp;omega)
 unfold Oper.wp
 simp[execOp,ho,resolve,invoke,builtin,hs,hx,hrun,Result.andThen]
 refine h v' w' r1 ?_ ?_
 ·exact⟨r2.os,r2.tape,r2.output,Nat.le_trans (by simp) r2.size,fun k hk hne=>(r2.block k (by simp;omega) hne).trans (heap_alloc_old W _ hk)⟩
 rcases r3 with r3|⟨k,r3,r4⟩
 ·exact .inl r3
 exact .inr ⟨k,r3,by simp at r4;omega⟩
theorem Yi(W:World){ops:Array Oper}{rest:List Oper}{o:Oper}{a:Act}{Q:Exit->Act->World->Prop}(hgd:o.guard=none)(s x:Operand)(t:TypeId)
  (ho:o.op=.call {callee:=.builtin .append,args:=#[s,x],argTypes:=#[t,t]})
  (base:Nat) (e:TypeId) (z:Value) (k bytes:Nat) (ht:P.underlying t=some (.slice e)) (hinfo:(P.info? e).map (fun i=>(i.zero,i.size,i.bytes))=some (some z,k,bytes))
  (hzs:z.cells.size=k) (hk:0<k) (us:List Value) (hul:us.length=k) (hu:∀u∈us,u.oneCell'=true) (v:Value) (n:Nat) (xs:List Value) (hs:a.eval s=v) (hx:a.eval x=.slice (some ⟨W.heap.size,0,none⟩) 1 1)
  (hown:W.ownsRow base e k v n xs) (h63:n+1<=maxLen) (hbytes:(n+1)*bytes<=140737488355328) (hbase:base<=W.heap.size)
  (h:∀v' w',w'.ownsRow base e k v' (n+1) (xs++us)->W.grownBy w' v.ownBlock->(v'.ownBlock=v.ownBlock\/∃k,v'.ownBlock=some k/\W.heap.size<=k)->wpList P ops Q rest (a.put o.dst v') w'):wpList P ops Q (o::rest) a (W.alloc (.cells us.toArray e)):=
 wpList_plain hgd fun K' hK'=>Qj W s x t ho base e z k bytes ht hinfo hzs hk us hul hu v n xs hs hx hown h63 hbytes hbase fun v' w' h1 h2 h3=>hK' _ _ (h v' w' h1 h2 h3)
end
section
attribute [local go_sem] Qja Qit Qib Qgw ByteArray.mk_append_mk
theorem Vk(s:List UInt8)(k:Nat)(hk:k<=6)(h:(s.take k).all Ba=true):Fk (s.take k)<=999999:=by
 have h1:=So (s.take k).length (s.take k) rfl h
 have h2:10 ^ (s.take k).length<=10 ^ 6:=Nat.pow_le_pow_right (by omega) (by simp;omega)
 have e6:10 ^ 6=1000000:=rfl
 omega
def Dj(s:List UInt8)(top:Nat):Bool:=match Cf s with|some m=>decide (m<=top)|none=>false
theorem Md{s:List UInt8}{top:Nat}(h:Cf s=none):Dj s top=false:=by unfold Dj;rw[h]
theorem Me{s:List UInt8}{top n:Nat}(h:Cf s=some n):Dj s top=decide (n<=top):=by unfold Dj;rw[h]
def Qdg(s:List UInt8)(top:Nat)(w:World)(e:Ending)(w':World):Prop:=
 ∃n:Nat,n<=999999/\e=.returned (.tuple #[.int .i64 n,.bool (Dj s top)])/\(∀m,Cf s=some m->m=n)/\Below w.heap.size w w'
theorem Db(s:List UInt8)(m:Nat)(w:World)(hs:s.length<=4000000)(hm:m<=999999):
  Calls prog 86 #[.string ⟨s.toArray⟩,.int .i64 m] w (Qdg s m w):=by
 go_enter func86,ntmps86
 go_wp2_with fail
 go_loop [6,7] (fun x i=>∃k:Nat,i=.int .i64 k/\k<=s.length/\k<=6/\Hid ((s.take k).all Ba=true)/\Fk (s.take k)<=999999/\x=.int .i64 ((Fk (s.take k):Nat):Int)) (fun _ i=>s.length - (intOf i).toNat)
 case atStart=>exact⟨0,rfl,Nat.zero_le _,by omega,by simp[Hid],by simp[Fk],by simp[Fk]⟩
 case round=>
  obtain⟨k,rfl,hk,hk6,hdig,hv,rfl⟩:=hrel
  by_cases hlt:k<s.length
  ·have hc:=(s[k]).toNat_lt
   have Hts:=Aa (Bn s k hlt)
   have Hmem:=Aa (List.getElem_mem hlt)
   by_cases hd:Ba s[k]=true
   ·have hd2:=Da.1 hd
    obtain⟨d1,d2⟩:=hd2
    by_cases h5:k<=5
    ·have hdig2:(s.take (k+1)).all Ba=true:=by
      rw[Hts.o,List.all_append,hdig.o];simp[hd]
     have hv2:=Vk s (k+1) (by omega) hdig2
     have Hdig2:=Aa hdig2
     have Hv:=Aa (show Fk (s.take (k+1))=10*Fk (s.take k)+((s[k]).toNat - 48)by rw[Hts.o,Ju])
     clear hd hdig2
     go_wp2_with fail
     go_round
     case rel=>exact⟨k+1,by go_num,by omega,by omega,Hdig2.o,hv2,Qiy (by rw[Hv.o];omega)⟩
     case measure=>simp[intOf];omega
    have h5':5<k:=by omega
    have hno:Cf s=none:=by
     unfold Cf
     rw[if_neg]
     rintro⟨_,h,_⟩
     omega
    have Hn:=Aa (Md (top:=m) hno)
    have Hno:=Aa hno
    clear hd hno h5
    go_wp2_with fail
    go_ret2
    exact⟨0,by omega,by rw[Hn.o];rfl,(fun m h=>by rw[Hno.o]at h;cases h),As _ _⟩
   have hno:Cf s=none:=by
    unfold Cf
    rw[if_neg]
    rintro⟨_,_,h,_⟩
    exact hd (List.all_eq_true.1 h _ Hmem.o)
   have Hn:=Aa (Md (top:=m) hno)
   have Hno:=Aa hno
   have h2:(s[k]).toNat<48\/(48<=(s[k]).toNat/\57<(s[k]).toNat):=by
    rcases Nat.lt_or_ge (s[k]).toNat 48 with h|h
    ·exact .inl h
    rcases Nat.lt_or_ge 57 (s[k]).toNat with h'|h'
    ·exact .inr ⟨h,h'⟩
    exact absurd (Da.2 ⟨h,h'⟩) hd
   clear hd hno
   rcases h2 with h2|⟨h2,h4⟩
   ·go_wp2_with fail
    go_ret2
    exact⟨0,by omega,by rw[Hn.o];rfl,(fun m h=>by rw[Hno.o]at h;cases h),As _ _⟩
   go_wp2_with fail
   go_ret2
   exact⟨0,by omega,by rw[Hn.o];rfl,(fun m h=>by rw[Hno.o]at h;cases h),As _ _⟩
  ·have e:s.take k=s:=List.take_of_length_le (by omega)
   rw[e]at hv ⊢
   have hcase:(Cf s=some (Fk s)/\s=Aw (Fk s))\/(Cf s=none/\s≠Aw (Fk s)):=by
    by_cases h:s=Aw (Fk s)
    ·exact .inl ⟨Bx.2 ⟨hv,h⟩,h⟩
    refine .inr ⟨?_,h⟩
    cases hd:Cf s with
    |none=>rfl
    |some n=>
     obtain⟨_,h2⟩:=Bx.1 hd
     exact absurd (by rw[h2,Ny]) h
   clear hdig e
   generalize Fk s=v at hv hcase
   have hdl:=Ds 5 v (by have e6:10 ^ (5+1)=1000000:=rfl;omega)
   rcases hcase with⟨h1,h2⟩|⟨h1,h2⟩
   ·have Hn:=Aa (Me (top:=m) h1)
    have Hd:=Aa h1
    have tq:(s == Aw v)=true:=by simpa using h2
    clear h1 h2
    by_cases hvm:v<=m
    ·go_wp2_with fail
     refine(Ja v v _ (Ap _) (by omega)).mono ?_
     rintro e w1 ⟨rfl,hb⟩
     have Hb:=Aa hb
     clear hb
     go_wp2_with fail
     go_ret2
     exact⟨v,hv,by rw[Hn.o];exact Qhn rfl (Ci (by simp[hvm])),(fun m h=>by rw[Hd.o]at h;injection h with h;exact h.symm),Hb.o⟩
    have hvm':m<v:=by omega
    go_wp2_with fail
    refine(Ja v v _ (Ap _) (by omega)).mono ?_
    rintro e w1 ⟨rfl,hb⟩
    have Hb:=Aa hb
    clear hb
    go_wp2_with fail
    go_ret2
    exact⟨v,hv,by rw[Hn.o];exact Qhn rfl (Ci (by simp;omega)),(fun m h=>by rw[Hd.o]at h;injection h with h;exact h.symm),Hb.o⟩
   have Hn:=Aa (Md (top:=m) h1)
   have Hd:=Aa h1
   have tq:(s == Aw v)=false:=by simpa using h2
   clear h1 h2
   go_wp2_with fail
   refine(Ja v v _ (Ap _) (by omega)).mono ?_
   rintro e w1 ⟨rfl,hb⟩
   have Hb:=Aa hb
   clear hb
   go_wp2_with fail
   go_ret2
   exact⟨v,hv,by rw[Hn.o];rfl,(fun m h=>by rw[Hd.o]at h;cases h),Hb.o⟩
def E4(s:List UInt8):Bool:=decide (2<=s.length) && decide (s.head?=some 39) && decide (s.getLast?=some 39) && Dh (s.drop 1).dropLast
theorem Sz(s:List UInt8)(w:World)(hs:s.length<=4000000):
  Calls prog 87 #[.string ⟨s.toArray⟩] w fun e w'=>e=.returned (.bool (E4 s))/\w=w':=by
 have hf:E4 s=(decide (2<=s.length) && decide (s.head?=some 39) && decide (s.getLast?=some 39) && Dh (s.drop 1).dropLast):=rfl
 rcases Nat.lt_or_ge s.length 2 with h2|h2
 ·have e0:decide (2<=s.length)=false:=by simp;omega
  have Hf:=Aa (show E4 s=false by rw[hf,e0];simp)
  have t0:decide ((s.length:Int)<2)=true:=by simp;omega
  clear hf e0
  go_enter func87,ntmps87
  go_wp2_with fail
  go_ret
  exact⟨D4 (Ci Hf.o.symm),rfl⟩
 have t0:decide ((s.length:Int)<2)=false:=by simp;omega
 rcases Nat.lt_or_ge 14 s.length with h14|h14
 ·have Hf:=Aa (show E4 s=false by
   have:Dh (s.drop 1).dropLast=false:=by
    unfold Dh
    have e1:decide ((s.drop 1).dropLast.length<=12)=false:=by simp;omega
    rw[e1];rfl
   rw[hf,this];simp)
  have t1:decide (14<(s.length:Int))=true:=by simp;omega
  clear hf
  go_enter func87,ntmps87
  go_wp2_with fail
  go_ret
  exact⟨D4 (Ci Hf.o.symm),rfl⟩
 obtain⟨c,u,d,rfl⟩:∃c u d,s=c::(u++[d]):=by
  cases s with
  |nil=>simp at h2
  |cons c t=>
   rcases Eh t with rfl|⟨u,d,rfl⟩
   ·simp at h2
   exact⟨c,u,d,rfl⟩
 have hl:(c::(u++[d])).getLast?=some d:=by
  rw[show c::(u++[d])=(c::u)++[d]from rfl,List.getLast?_append];rfl
 have hu:((c::(u++[d])).drop 1).dropLast=u:=by simp
 have e2:decide (2<=(c::(u++[d])).length)=true:=by simp
 rw[hl,hu,e2]at hf
 simp only[List.head?_cons,Option.some.injEq,Bool.true_and]at hf
 have Hf:=Aa hf
 have hc:=c.toNat_lt
 have hd:=d.toNat_lt
 have hgd:∀h,(c::(u++[d]))[u.length+1]'h=d:=by intro h;simp
 have hul:u.length<=12:=by simp at h14;omega
 have Hfit:=Aa (show Dh u=u.all B0 by simp[Dh,hul])
 clear hf hl hu h2 hs h14 t0 e2
 by_cases hc39:c=39
 ·have t1:((c.toNat:Int) != 39)=false:=by have:=Bl hc39;simpa using this
  have Hc:=Aa (show decide (c=39)=true by simpa using hc39)
  clear hc39
  by_cases hd39:d=39
  ·have t2:((d.toNat:Int) != 39)=false:=by have:=Bl hd39;simpa using this
   have Hd:=Aa (show decide (d=39)=true by simpa using hd39)
   clear hd39
   go_enter func87,ntmps87
   go_wp2_with fail
   go_loop [3] (fun i=>∃k:Nat,i=.int .i64 ((k:Int)+1)/\k<=u.length/\Hid ((u.take k).all B0=true)) (fun i=>u.length+1 - (intOf i).toNat)
   case atStart=>exact⟨0,rfl,Nat.zero_le _,by simp[Hid]⟩
   case round=>
    obtain⟨k,rfl,hk,hin⟩:=hrel
    by_cases hlt:k<u.length
    ·have hg:∀h,(c::(u++[d]))[k+1]'h=u[k]:=by intro h;simp[List.getElem_append_left hlt]
     have Hts:=Aa (Bn u k hlt)
     have Hmem:=Aa (List.getElem_mem hlt)
     have hx:=(u[k]).toNat_lt
     generalize u[k]=x at hg Hts Hmem hx
     by_cases ht:B0 x=true
     ·have Hin:=Aa (show (u.take (k+1)).all B0=true by rw[Hts.o,List.all_append,hin.o];simp[ht])
      have h3:x=32\/(x.toNat≠32/\48<=x.toNat/\x.toNat<=57)\/(57<x.toNat/\97<=x.toNat/\x.toNat<=122):=by
       unfold B0 at ht
       simp only[Bool.or_eq_true]at ht
       rcases ht with(h|h)|h
       ·have:=Ml.1 h;exact .inr (.inr ⟨by omega,this⟩)
       ·have:=Da.1 h;exact .inr (.inl ⟨by omega,this⟩)
       exact .inl (by simpa using h)
      clear ht
      rcases h3 with h3|⟨h3,h4,h5⟩|⟨h3,h4,h5⟩
      ·have t3:((x.toNat:Int) != 32)=false:=by have:=Bl h3;simpa using this
       clear h3
       go_wp2_with fail
       go_round
       case rel=>exact⟨k+1,by go_num,by omega,Hin.o⟩
       case measure=>simp[intOf];omega
      ·have t3:((x.toNat:Int) != 32)=true:=by rw[bne_iff_ne];omega
       go_wp2_with fail
       go_round
       case rel=>exact⟨k+1,by go_num,by omega,Hin.o⟩
       case measure=>simp[intOf];omega
      have t3:((x.toNat:Int) != 32)=true:=by rw[bne_iff_ne];omega
      go_wp2_with fail
      go_round
      case rel=>exact⟨k+1,by go_num,by omega,Hin.o⟩
      case measure=>simp[intOf];omega
     have Hno:=Aa (show u.all B0=false by
      cases h:u.all B0 with
      |false=>rfl
      |true=>exact absurd (List.all_eq_true.1 h _ Hmem.o) ht)
     have h32:x≠32:=by rintro rfl;exact ht rfl
     have t3:((x.toNat:Int) != 32)=true:=by have:=An h32;simpa using this
     have h3:x.toNat<48\/(57<x.toNat/\x.toNat<97)\/122<x.toNat:=by
      have a:¬G7 x=true:=fun h=>ht (by simp[B0,h])
      have b:¬Ba x=true:=fun h=>ht (by simp[B0,h])
      rw[Ml]at a
      rw[Da]at b
      omega
     clear ht h32
     rcases h3 with h3|⟨h3,h4⟩|h3
     all_goals
      go_wp2_with fail
      go_ret
      exact⟨D4 (Ci (by rw[Hf.o,Hc.o,Hd.o,Hfit.o,Hno.o];rfl)),rfl⟩
    ·have Hall:=Aa (show u.all B0=true by
      have:=hin.o
      rwa [List.take_of_length_le (by omega)]at this)
     have hk2:k=u.length:=by omega
     subst hk2
     go_wp2_with fail
     go_ret
     exact⟨D4 (Ci (by rw[Hf.o,Hc.o,Hd.o,Hfit.o,Hall.o];rfl)),rfl⟩
  have t2:((d.toNat:Int) != 39)=true:=by have:=An hd39;simpa using this
  have Hd:=Aa (show decide (d=39)=false by simpa using hd39)
  clear hd39
  go_enter func87,ntmps87
  go_wp2_with fail
  go_ret
  exact⟨D4 (Ci (by rw[Hf.o,Hd.o];simp)),rfl⟩
 have t1:((c.toNat:Int) != 39)=true:=by have:=An hc39;simpa using this
 have Hc:=Aa (show decide (c=39)=false by simpa using hc39)
 clear hc39
 go_enter func87,ntmps87
 go_wp2_with fail
 go_ret
 exact⟨D4 (Ci (by rw[Hf.o,Hc.o];simp)),rfl⟩
end
end Go.Proofs.YtkigmebejmmikaaGreatDoor
