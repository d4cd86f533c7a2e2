import PyProof.Rows.All
import Wide.All
import OpenK.AllK
import Wide.FinOn
import PySem.Challenge.RW_uf060003_04
set_option Elab.async false
set_option compiler.extract_closed false
set_option maxRecDepth 100000
set_option maxHeartbeats 8000000
set_option genInjectivity false
set_option linter.all false
set_option genSizeOf false
set_option genSizeOfSpec false
set_option bootstrap.genMatcherCode false
universe u
namespace Mine.Lake
noncomputable section
local macro_rules
 | `(∅) => `(by first | kernel_rfl | decide | decide +kernel)
theorem bz {α:Type} (t:α) {P:Prop} (h:∀x,t=x->P):P:=h t rfl
structure A3 (p0 p1 p2:Prop):Prop where
 h0:p0
 h1:p1
 h2:p2
inductive A4 (p0 p1 p2 p3:Prop):Prop
 | mk (h0:p0) (h1:p1) (h2:p2) (h3:p3)
inductive A5 (p0 p1 p2 p3 p4:Prop):Prop
 | mk (h0:p0) (h1:p1) (h2:p2) (h3:p3) (h4:p4)
inductive A6 (p0 p1 p2 p3 p4 p5:Prop):Prop
 | mk (h0:p0) (h1:p1) (h2:p2) (h3:p3) (h4:p4) (h5:p5)
inductive A7 (p0 p1 p2 p3 p4 p5 p6:Prop):Prop
 | mk (h0:p0) (h1:p1) (h2:p2) (h3:p3) (h4:p4) (h5:p5) (h6:p6)
inductive A8 (p0 p1 p2 p3 p4 p5 p6 p7:Prop):Prop
 | mk (h0:p0) (h1:p1) (h2:p2) (h3:p3) (h4:p4) (h5:p5) (h6:p6) (h7:p7)
inductive Kn (p0 p1 p2 p3 p4 p5 p6 p7 p8 p9:Prop):Prop
 | mk (h0:p0) (h1:p1) (h2:p2) (h3:p3) (h4:p4) (h5:p5) (h6:p6) (h7:p7) (h8:p8) (h9:p9)
abbrev aaa:=@Nat.sub_add_cancel
abbrev aab:=@List.getElem?_eq_some_iff
abbrev aac:=@List.prefix_refl
abbrev aad:=@List.length_append
abbrev aae:=@List.append_assoc
abbrev aaf:=@Nat.le_antisymm
abbrev aag:=@List.mem_map
abbrev aah:=@PySem.Heap.get?_push_of_some
abbrev aai:=@List.length_map
abbrev aaj:=@List.mem_singleton
abbrev aak:=@List.getElem?_eq_getElem
abbrev aal:=@List.mem_cons
abbrev aam:=@Nat.le_trans
abbrev aan:=@List.getElem?_append_right
abbrev aao:=@List.mem_append
abbrev aap:=@List.prefix_append
abbrev aaq:=@Int.toNat_of_nonneg
abbrev aar:=@List.pairwise_append
abbrev aas:=@List.map_cons
abbrev aat:=@Nat.lt_or_gt_of_ne
abbrev aau:=@List.mem_append_right
abbrev aav:=@List.length_cons
abbrev aaw:=@List.getElem?_append_left
abbrev aax:=@List.mem_reverse
abbrev aay:=@List.find?_cons_of_neg
abbrev aaz:=@Array.getElem?_toList
abbrev aaA:=@Nat.add_sub_cancel_left
abbrev aaB:=@List.getElem?_set_self
abbrev aaC:=@List.find?_cons_of_pos
abbrev aaD:=@Nat.le_refl
abbrev aaE:=@List.mem_of_find?_eq_some
abbrev aaF:=@List.mem_filter
abbrev aaG:=@PySem.Heap.get?_push_size
abbrev aaH:=@Bool.and_eq_true_iff
abbrev aaI:=@PySem.Heap.get?_none_of_le
abbrev aaJ:=@Nat.le_add_right
abbrev aaK:=@List.mem_append_left
abbrev aaL:=@List.size_toArray
abbrev aaM:=@List.pairwise_cons
abbrev aaN:=@List.mem_of_getElem?
abbrev aaO:=@List.filter_cons_of_pos
abbrev aaP:=@List.filter_cons_of_neg
abbrev aaQ:=@Option.isSome_iff_exists
abbrev aaR:=@Option.bind_some
abbrev aaS:=@List.getElem?_set_ne
abbrev aaT:=@Nat.sub_eq_zero_of_le
abbrev aaU:=@List.take_append_drop
abbrev aaV:=@List.length_singleton
abbrev aaW:=@Bool.false_ne_true
abbrev aaX:=@Array.length_toList
abbrev aaY:=@Array.toList_append
abbrev aaZ:=@List.flatMap_cons
abbrev aa0:=@Int.le_antisymm
abbrev aa1:=@List.length_filter_le
abbrev aa2:=@Nat.zero_add
abbrev aa3:=@List.cons_append
abbrev aa4:=@Nat.lt_of_lt_of_le
abbrev aa5:=@List.count_cons_of_ne
abbrev aa6:=@Nat.le_of_ble_eq_true
abbrev aa7:=@List.length_reverse
abbrev aa8:=@List.pairwise_singleton
abbrev aa9:=@Bool.and_eq_true
inductive Tm where
 | v (i:Nat)
 | n (k:Nat)
 | a (x y:Tm)
 | m (k:Nat) (x:Tm)
 | s (x y:Tm)
 | c (x:Tm)
 | g (x:Tm)
@[reducible] noncomputable def bI {α:Sort u} (b:Bool) (x y:α):α:=Bool.rec y x b
@[reducible] noncomputable def ixA {α:Type} (z:α):List α->Nat->α
 | [],_=>z
 | x::_,0=>x
 | _::t,i+1=>ixA z t i
@[reducible] noncomputable def Tm.N (A:List Nat):Tm->Nat
 | .v i=>ixA 0 A i
 | .n k=>k
 | .a x y=>x.N A+y.N A
 | .m k x=>k*x.N A
 | .s _ _=>0
 | .c _=>0
 | .g _=>0
@[reducible] noncomputable def Tm.I (A:List Nat) (B:List Int):Tm->Int
 | .v i=>ixA 0 B i
 | .n k=>Int.ofNat k
 | .a x y=>x.I A B+y.I A B
 | .m k x=>Int.ofNat k*x.I A B
 | .s x y=>x.I A B-y.I A B
 | .c x=>Nat.cast (x.N A)
 | .g x => -x.I A B
noncomputable def ES:List Int->List Int->List Int
 | [],q=>q
 | p,[]=>p
 | a::p,b::q=>(a+b)::ES p q
noncomputable def Iz:Nat->List Int
 | 0=>[1]
 | i+1=>0::Iz i
noncomputable def tO:List Int->List Int->Int
 | x::A,c::p=>c*x+tO A p
 | _,_=>0
theorem qe (A:List Int):tO A []=0:=by cases A<;>rfl
theorem Ic (a b c d:Int):a+b+(c+d)=a+c+(b+d):=by rw [Int.add_assoc,Int.add_assoc,Int.add_left_comm b]
theorem xU:∀(A p q:List Int),tO A (ES p q)=tO A p+tO A q
 | [],p,q=>rfl
 | x::A,[],q=>(Int.zero_add _).symm
 | x::A,a::p,[]=>(Int.add_zero _).symm
 | x::A,a::p,b::q=>by
  show (a+b)*x+tO A (ES p q)=(a*x+tO A p)+(b*x+tO A q)
  rw [xU A p q,Int.add_mul];exact Ic _ _ _ _
theorem A1 (k:Int):∀(A p:List Int),tO A (p.map (k * ·))=k*tO A p
 | [],p=>(Int.mul_zero k).symm
 | x::A,[]=>(Int.mul_zero k).symm
 | x::A,a::p=>by
  show k*a*x+tO A (p.map (k * ·))=k*(a*x+tO A p)
  rw [A1 k A p,Int.mul_add,Int.mul_assoc]
theorem A2:∀(A:List Int) (i:Nat),tO A (Iz i)=ixA 0 A i
 | [],0=>rfl
 | [],_+1=>rfl
 | x::A,0=>by show 1*x+tO A []=x;rw [qe,Int.one_mul,Int.add_zero]
 | x::A,i+1=>by show 0*x+tO A (Iz i)=ixA 0 A i;rw [A2 A i,Int.zero_mul,Int.zero_add]
theorem Cp:∀(A:List Nat) (i:Nat),ixA 0 (A.map Nat.cast) i=((ixA 0 A i:Nat):Int)
 | [],_=>rfl
 | _::_,0=>rfl
 | _::A,i+1=>Cp A i
structure Fm where
 k:Int
 p:List Int
 q:List Int
noncomputable def Fm.e (A:List Nat) (B:List Int) (f:Fm):Int:=f.k+tO (A.map Nat.cast) f.p+tO B f.q
noncomputable def Fm.add (f g:Fm):Fm:=⟨f.k+g.k,ES f.p g.p,ES f.q g.q⟩
noncomputable def Fm.sc (c:Int) (f:Fm):Fm:=⟨c*f.k,f.p.map (c * ·),f.q.map (c * ·)⟩
section
variable (A:List Nat) (B:List Int)
theorem Fm.e_add (f g:Fm):(f.add g).e A B=f.e A B+g.e A B:=by
 unfold Fm.e Fm.add;dsimp only;rw [xU,xU,Ic f.k,Ic]
theorem Fm.e_sc (c:Int) (f:Fm):(f.sc c).e A B=c*f.e A B:=by
 unfold Fm.e Fm.sc;dsimp only;rw [A1,A1,Int.mul_add,Int.mul_add]
theorem Fm.e_k (k:Int):(Fm.mk k [] []).e A B=k:=by unfold Fm.e;dsimp only;rw [qe,qe,Int.add_zero,Int.add_zero]
noncomputable def Tm.LN:Tm->Fm
 | .v i=>⟨0,Iz i,[]⟩
 | .n k=>⟨k,[],[]⟩
 | .a x y=>x.LN.add y.LN
 | .m k x=>x.LN.sc k
 | _=>⟨0,[],[]⟩
noncomputable def Tm.LI:Tm->Fm
 | .v i=>⟨0,[],Iz i⟩
 | .n k=>⟨k,[],[]⟩
 | .a x y=>x.LI.add y.LI
 | .m k x=>x.LI.sc k
 | .s x y=>x.LI.add (y.LI.sc (-1))
 | .c x=>x.LN
 | .g x=>x.LI.sc (-1)
theorem Tm.eN:∀t:Tm,t.LN.e A B=((t.N A:Nat):Int)
 | .v i=>by show 0+tO (A.map Nat.cast) (Iz i)+tO B []=_;rw [A2,qe,Cp,Int.zero_add,Int.add_zero]
 | .n k=>Fm.e_k A B k
 | .a x y=>by show (x.LN.add y.LN).e A B=_;rw [Fm.e_add,Tm.eN x,Tm.eN y];rfl
 | .m k x=>by show (x.LN.sc k).e A B=_;rw [Fm.e_sc,Tm.eN x];rfl
 | .s _ _=>Fm.e_k A B 0
 | .c _=>Fm.e_k A B 0
 | .g _=>Fm.e_k A B 0
theorem Tm.eI:∀t:Tm,t.LI.e A B=t.I A B
 | .v i=>by show 0+tO (A.map Nat.cast) []+tO B (Iz i)=_;rw [A2,qe,Int.zero_add,Int.zero_add]
 | .n k=>Fm.e_k A B k
 | .a x y=>by show (x.LI.add y.LI).e A B=_;rw [Fm.e_add,Tm.eI x,Tm.eI y]
 | .m k x=>by show (x.LI.sc k).e A B=_;rw [Fm.e_sc,Tm.eI x];rfl
 | .s x y=>by show (x.LI.add (y.LI.sc (-1))).e A B=_;rw [Fm.e_add,Fm.e_sc,Tm.eI x,Tm.eI y,Int.neg_mul,Int.one_mul];rfl
 | .c x=>Tm.eN A B x
 | .g x=>by show (x.LI.sc (-1)).e A B=_;rw [Fm.e_sc,Tm.eI x,Int.neg_mul,Int.one_mul]
@[reducible] noncomputable def opD {α:Type} [LE α] [LT α]:Nat->α->α->Prop
 | 0,x,y=>x<=y
 | 1,x,y=>x<y
 | 2,x,y=>x=y
 | 3,x,y=>x=y
 | 4,x,y=> ¬x<=y
 | 5,x,y=> ¬x<y
 | _,_,_=>False
noncomputable def JL:Nat->Fm->Fm->Fm
 | 0,x,y=>y.add (x.sc (-1))
 | 1,x,y=>(y.add (x.sc (-1))).add ⟨-1,[],[]⟩
 | 2,x,y=>y.add (x.sc (-1))
 | 3,x,y=>x.add (y.sc (-1))
 | 4,x,y=>(x.add (y.sc (-1))).add ⟨-1,[],[]⟩
 | 5,x,y=>x.add (y.sc (-1))
 | _,_,_=>⟨0,[],[]⟩
theorem JM {a b:Int} (h:a<=b):0<=b + -1*a:=by rw [Int.neg_mul,Int.one_mul];exact Int.sub_nonneg.mpr h
theorem Kk {a b:Int} (h:a<b):0<=b + -1*a + -1:=by rw [Int.neg_mul,Int.one_mul];exact Int.sub_nonneg.mpr (Int.le_sub_left_of_add_le h)
theorem rz (κ:Nat) (f g:Fm) (h:opD κ (f.e A B) (g.e A B)):0<=(JL κ f g).e A B:=by
 match κ,h with
 | 0,h=>show 0<=(g.add (f.sc (-1))).e A B;rw [Fm.e_add,Fm.e_sc];exact JM h
 | 1,h=>show 0<=((g.add (f.sc (-1))).add _).e A B;rw [Fm.e_add,Fm.e_add,Fm.e_sc,Fm.e_k];exact Kk h
 | 2,h=>show 0<=(g.add (f.sc (-1))).e A B;rw [Fm.e_add,Fm.e_sc];exact JM (Int.le_of_eq h)
 | 3,h=>show 0<=(f.add (g.sc (-1))).e A B;rw [Fm.e_add,Fm.e_sc];exact JM (Int.le_of_eq (Eq.symm h))
 | 4,h=>show 0<=((f.add (g.sc (-1))).add _).e A B;rw [Fm.e_add,Fm.e_add,Fm.e_sc,Fm.e_k];exact Kk (Int.not_le.mp h)
 | 5,h=>show 0<=(f.add (g.sc (-1))).e A B;rw [Fm.e_add,Fm.e_sc];exact JM (Int.not_lt.mp h)
 | _+6,h=>exact h.elim
noncomputable def J8:Nat->Nat
 | 0=>4
 | 1=>5
 | 4=>0
 | 5=>1
 | _=>6
theorem E6 (κ:Nat) (f g:Fm) (h:¬opD κ (f.e A B) (g.e A B)):0<=(JL (J8 κ) f g).e A B:=by
 match κ,h with
 | 0,h=>exact rz A B 4 f g h
 | 1,h=>exact rz A B 5 f g h
 | 2,_=>exact Int.le_of_eq (Fm.e_k A B 0).symm
 | 3,_=>exact Int.le_of_eq (Fm.e_k A B 0).symm
 | 4,h=>exact rz A B 0 f g (Classical.not_not.mp h)
 | 5,h=>exact rz A B 1 f g (Classical.not_not.mp h)
 | _+6,_=>exact Int.le_of_eq (Fm.e_k A B 0).symm
theorem Ad (κ:Nat) (x y:Nat):opD κ x y↔opD κ (x:Int) (y:Int):=by
 match κ with
 | 0=>exact Int.ofNat_le.symm
 | 1=>exact Int.ofNat_lt.symm
 | 2=>exact Int.ofNat_inj.symm
 | 3=>exact Int.ofNat_inj.symm
 | 4=>exact not_congr Int.ofNat_le.symm
 | 5=>exact not_congr Int.ofNat_lt.symm
 | _+6=>exact Iff.rfl
end
@[reducible] noncomputable def rdT:Nat->Nat->Tm×Nat
 | 0,c=>(.n 0,c)
 | f+1,c =>
  bI (Nat.ble (c%16) 7) (.v (c%16),c/16) (
  bI (Nat.beq (c%16) 8) (.v (8+c/16%16),c/256) (
  bI (Nat.beq (c%16) 9) (.n (c/16%16),c/256) (
  bI (Nat.beq (c%16) 10) (.n (c/16%16777216),c/268435456) (
  bI (Nat.beq (c%16) 11) (bI (Nat.beq (c/16%16) 0) (.n 16777216,c/256) (.g (rdT f (c/256)).1,(rdT f (c/256)).2)) (
  bI (Nat.beq (c%16) 12) (.a (rdT f (c/16)).1 (rdT f (rdT f (c/16)).2).1,(rdT f (rdT f (c/16)).2).2) (
  bI (Nat.beq (c%16) 13) (.m (c/16%256) (rdT f (c/4096)).1,(rdT f (c/4096)).2) (
  bI (Nat.beq (c%16) 14) (.s (rdT f (c/16)).1 (rdT f (rdT f (c/16)).2).1,(rdT f (rdT f (c/16)).2).2)
  (.c (rdT f (c/16)).1,(rdT f (c/16)).2))))))))
structure Cn where
 κ:Nat
 l:Tm
 r:Tm
@[reducible] noncomputable def Cn.d (A:List Nat) (B:List Int) (x:Cn):Prop :=
 bI (Nat.ble x.κ 7) (opD x.κ (x.l.N A) (x.r.N A)) (opD (x.κ-8) (x.l.I A B) (x.r.I A B))
noncomputable def Cn.f (x:Cn) (κ:Nat->Nat):Fm :=
 bI (Nat.ble x.κ 7) (JL (κ x.κ) x.l.LN x.r.LN) (JL (κ (x.κ-8)) x.l.LI x.r.LI)
@[reducible] noncomputable def rdC (c:Nat):Cn×Nat:=(⟨c%16,(rdT 20 (c/16)).1,(rdT 20 (rdT 20 (c/16)).2).1⟩,(rdT 20 (rdT 20 (c/16)).2).2)
@[reducible] noncomputable def Im (A:List Nat) (B:List Int):Nat->Nat->Prop
 | 0,c=>(rdC c).1.d A B
 | n+1,c=>(rdC (c/16)).1.d A B->Im A B n (rdC (c/16)).2
noncomputable def bad (f:Fm):Bool:=decide (f.k<0)&&f.p.all (λc=>decide (c<=0))&&f.q.all (λc=>decide (c=0))
noncomputable def J6:Nat->Nat->Fm->Bool
 | 0,c,f=>bad (f.add ((rdC c).1.f J8))
 | n+1,c,f=>J6 n (rdC (c/16)).2 (f.add (((rdC (c/16)).1.f id).sc (Int.ofNat (c%16))))
section
variable (A:List Nat) (B:List Int)
theorem Cn.ok (x:Cn) (h:x.d A B):0<=(x.f id).e A B:=by
 unfold Cn.d at h;unfold Cn.f
 cases e:Nat.ble x.κ 7 with
 | true=>rw [e] at h;exact rz A B _ _ _ (by rw [Tm.eN,Tm.eN];exact (Ad _ _ _).mp h)
 | false=>rw [e] at h;exact rz A B _ _ _ (by rw [Tm.eI,Tm.eI];exact h)
theorem Cn.no (x:Cn) (h:¬x.d A B):0<=(x.f J8).e A B:=by
 unfold Cn.d at h;unfold Cn.f
 cases e:Nat.ble x.κ 7 with
 | true=>rw [e] at h;exact E6 A B _ _ _ (by rw [Tm.eN,Tm.eN];exact λh'=>h ((Ad _ _ _).mpr h'))
 | false=>rw [e] at h;exact E6 A B _ _ _ (by rw [Tm.eI,Tm.eI];exact h)
theorem Cg:∀(A:List Nat) (p:List Int),p.all (λc=>decide (c<=0))=true->tO (A.map Nat.cast) p<=0
 | [],_,_=>Int.le_refl 0
 | _::_,[],_=>Int.le_refl 0
 | x::A,c::p,h=>by
  have h:=aaH.mp h
  exact Int.add_le_add (Int.mul_nonpos_of_nonpos_of_nonneg (of_decide_eq_true h.1) (Int.natCast_nonneg x)) (Cg A p h.2)
theorem zo:∀(B p:List Int),p.all (λc=>decide (c=0))=true->tO B p=0
 | [],_,_=>rfl
 | _::_,[],_=>rfl
 | x::B,c::p,h=>by
  have h:=aaH.mp h
  show c*x+tO B p=0
  rw [of_decide_eq_true h.1,zo B p h.2,Int.zero_mul];rfl
theorem HT (f:Fm) (h:bad f=true) (h2:0<=f.e A B):False:=by
 have h:=aaH.mp h
 have h1:=aaH.mp h.1
 have a:=of_decide_eq_true h1.1
 have b:=Cg A _ h1.2
 have c:=zo B _ h.2
 unfold Fm.e at h2
 rw [c,Int.add_zero] at h2
 exact absurd h2 (Int.not_le.mpr (Int.lt_of_le_of_lt (Int.add_le_add_left b _) (by rw [Int.add_zero];exact a)))
theorem Hj:∀(n c:Nat) (f:Fm),0<=f.e A B->J6 n c f=true->Im A B n c
 | 0,c,f,h,h2=>Classical.byContradiction λg=>HT A B _ h2 (by rw [Fm.e_add];exact Int.add_nonneg h (Cn.no A B _ g))
 | n+1,c,f,h,h2=>λg=>Hj n _ _ (by rw [Fm.e_add,Fm.e_sc];exact Int.add_nonneg h (Int.mul_nonneg (Int.natCast_nonneg _) (Cn.ok A B _ g))) h2
end
theorem sA (a b:Nat):a<=a-b+b:=Nat.sub_le_iff_le_add.mp (aaD _)
noncomputable def JJ (c:Nat):Bool:=J6 (c%16) (c/16) ⟨0,[],[]⟩
@[reducible] noncomputable def Imc (A:List Nat) (B:List Int) (c:Nat):Prop:=Im A B (c%16) (c/16)
theorem Kj (c:Nat) (A:List Nat) (B:List Int) (h:JJ c=true):Imc A B c:=Hj A B _ _ _ (Int.le_of_eq (Fm.e_k A B 0).symm) h
theorem aS (c:Nat) (A:List Nat) (h:JJ c=true):Imc A [] c:=Kj c A [] h
@[reducible] noncomputable def Imd (A:List Nat) (B:List Int) (c:Nat):Prop:=bI (JJ c) (Imc A B c) True
theorem hH (A:List Nat) (B:List Int) (c:Nat):Imd A B c:=by
 unfold Imd
 cases h:JJ c with
 | true=>exact Kj c A B h
 | false=>trivial
theorem cU (c:Nat) {a:Nat}:Imd [a] [] c:=hH _ _ c
theorem cM (c:Nat) {a b:Nat}:Imd [a,b] [] c:=hH _ _ c
theorem mK (c:Nat) {a b d:Nat}:Imd [a,b,d] [] c:=hH _ _ c
theorem vS (c:Nat) {a b d e:Nat}:Imd [a,b,d,e] [] c:=hH _ _ c
theorem Bx (c:Nat) {a b d e f:Nat}:Imd [a,b,d,e,f] [] c:=hH _ _ c
theorem bQ (c:Nat) {x:Int}:Imd [] [x] c:=hH _ _ c
theorem td (c:Nat) {x y:Int}:Imd [] [x,y] c:=hH _ _ c
theorem Hr (c:Nat) {x y z:Int}:Imd [] [x,y,z] c:=hH _ _ c
theorem Gl (c:Nat) {x y z w:Int}:Imd [] [x,y,z,w] c:=hH _ _ c
theorem j5 (c:Nat) {a:Nat} {x:Int}:Imd [a] [x] c:=hH _ _ c
theorem kx (c:Nat) {a b:Nat} {x:Int}:Imd [a,b] [x] c:=hH _ _ c
theorem Dz (c:Nat) {a:Nat} {x y:Int}:Imd [a] [x,y] c:=hH _ _ c
theorem bP {P:Prop} (h:∀X:Prop,(P->X)->X):P:=h P id
open PySem PySem.W PyProof.Rows
inductive V where
 | none:V
 | bool (b:Bool):V
 | int (i:Int):V
 | str (s:String):V
 | tup (xs:List V):V
 | ref (i:Nat):V
 | inst (c:String) (i:Nat):V
 | exc (c:String):V
 | scr:V
inductive O where
 | list (xs:List V)
 | dict (es:List (Int×V))
 | flds (fs:List (String×V))
abbrev Hp:=List O
abbrev bw:=String->Option V
noncomputable def upd (l:bw) (x:String) (v:V):bw:=λy=>if y=x then some v else l y
structure S where
 l:bw
 H:Hp
inductive qT (σ α:Type) where
 | ok (a:α) (s:σ)
 | exc (c:String) (s:σ)
 | stuck
abbrev Cm (α:Type):=S->qT S α
noncomputable def Cm.b {α β:Type} (m:Cm α) (f:α->Cm β):Cm β:=λs=>match m s with
 | .ok a s'=>f a s'
 | .exc c s'=> .exc c s'
 | .stuck=> .stuck
noncomputable def Cm.p {α:Type} (a:α):Cm α:=λs=> .ok a s
noncomputable def Cm.stk {α:Type}:Cm α:=λ_=> .stuck
abbrev Fc:=List V->Hp->qT Hp V
inductive Fl where
 | next
 | ret (v:V)
structure Cx where
 prog:Program
 w:World
 K:Frag
 hB:Heap
 os:OsState
 mg:Str->Option Value
 mb:Str->Option Value
 cls:String->Option Addr
 xcl:String->Option Addr
 sa:Addr
 sv:List Value
 sn:List Int
abbrev Cx.M (G:Cx):Model:=model G.prog G.w
structure bJ (G:Cx):Prop where
 X:G.K.In G.hB
 g:G.hB.Ns mainGlobals G.mg
 b:G.hB.Ns builtinsNs G.mb
 bt:∀x:Str,x ≠ "__name__" -> G.mb x=bootBuiltins x
 lim:G.hB.NoLimit
 seer:G.hB.NoSeer
 tree:G.prog.given.tree=none
 scr:G.hB.IsList G.sa G.sv.toArray
 isInts:IntsAre G.sv G.sn
 short:G.sn.length<=63
noncomputable def kP:List Stmt:=PySem.Challenge.pw_uf060003_04.main.body
noncomputable def kF (i:Nat):Stmt:=kP.getD i (.Pass ⟨0,0,0,0⟩)
noncomputable def kM (i j:Nat):Stmt:=match kF i with | .ClassDef _ _ _ b _ _ _ _ _ _ _=>b.getD j (.Pass ⟨0,0,0,0⟩) | s=>s
noncomputable def kA:Stmt->Arguments | .FunctionDef _ a _ _ _ _ _ _ _ _=>a | _=>⟨[],[],none,[],[],none,[]⟩
noncomputable def kB:Stmt->List Stmt | .FunctionDef _ _ b _ _ _ _ _ _ _=>b | _=>[]
noncomputable def kC:Stmt->Scope | .FunctionDef _ _ _ _ _ _ s _ _ _=>s | _=>default
noncomputable def kS (x:String) (t:Nat):Value:= .str (Str.ofString x) t
noncomputable def kE (P:Params) (x:String) (t:Nat) (v:Value):DictEntry:=⟨PyData.keyHash P (Str.ofString x),.str (Str.ofString x) t,v⟩
noncomputable def kO (r:Nat) (x y:String) (t n a l k:Nat):Addr×Obj:=(r+5,⟨(.type "code"),none,.fields #[(kS x t),(kS y (t+1)),(kS "/claim/cut.py" (t+2)),(.int n 0),(.int a 0),(.int 0 0),(.int 0 0),(.int l 0),(.ref r),(.bool true),(.int 181 0),(.ref (r+1)),.none,(.ref (r+2)),(.ref (r+3)),(.ref (r+4)),(.int k 0),(.int n 0),(kS "/claim/cut.py" (k+1))],#[]⟩)
noncomputable def kU (a:Nat) (x y:String) (b:Stmt) (v:Value):Addr×Obj:=(a,⟨(.type "function"),none,.func ⟨(Str.ofString x),(Str.ofString y),(kA b),(.stmts (kB b)),(kC b),3,[],.none,.none,.none,v,none,(.ref (a-1)),.none,0⟩,#[]⟩)
noncomputable def K0 (P:Params):Frag:=[
 (2,⟨.none,none,.dict #[] 0,#[]⟩),
 (3,⟨(.type "dict"),none,.dict #[(kE P "__name__" 165 (kS "law_uf060003_04" 640)),(kE P "__doc__" 166 .none),(kE P "__package__" 167 .none),(kE P "__loader__" 168 (.builtin "__main__.__loader__#opaque")),(kE P "__spec__" 169 .none),(kE P "__annotations__" 170 (.ref 6)),(kE P "__builtins__" 171 (.ref 4)),(kE P "__file__" 173 (kS "/claim/cut.py" 172)),(kE P "__cached__" 174 .none),(kE P "RoomError" 206 (.ref 24)),(kE P "BadPlan" 222 (.ref 37)),(kE P "BadWish" 238 (.ref 49)),(kE P "TooLarge" 254 (.ref 61)),(kE P "NoSize" 270 (.ref 73)),(kE P "NoRoom" 286 (.ref 85)),(kE P "NotOut" 302 (.ref 97)),(kE P "OutOfThing" 318 (.ref 109)),(kE P "Shelf" 395 (.ref 164)),(kE P "Room" 563 (.ref 286)),(kE P "MOST_PAGES" 567 (.int 40 566)),(kE P "MOST_LENGTH" 569 (.int 60 568)),(kE P "MOST_SIZES" 571 (.int 8 570)),(kE P "whole" 578 (.ref 297)),(kE P "between" 587 (.ref 304)),(kE P "Plan" 639 (.ref 335)),(kE P "_law_cell_at" 649 (.ref 346)),(kE P "_law_whole" 656 (.ref 353)),(kE P "_law_sizes_by" 670 (.ref 360)),(kE P "_law_plan_by" 681 (.ref 367)),(kE P "_law_size_by" 690 (.ref 374)),(kE P "_law_pairs" 698 (.ref 381)),(kE P "_law_gathered" 709 (.ref 388)),(kE P "_law_asked" 721 (.ref 395)),(kE P "_law_step" 734 (.ref 402)),(kE P "_law_history" 746 (.ref 409)),(kE P "_law_step_by" 757 (.ref 416)),(kE P "_law_deed" 768 (.ref 423)),(kE P "_law_due" 782 (.ref 430)),(kE P "_law_found" 795 (.ref 437)),(kE P "_law_by_name" 807 (.ref 444)),(kE P "_law_place_by" 818 (.ref 451)),(kE P "_law_stays" 827 (.ref 458)),(kE P "law" 846 (.ref 465))] 43,#[]⟩),
 (23,⟨(.type "dict"),none,.dict #[(kE P "__module__" 196 (kS "slabroom.errors" 187)),(kE P "__firstlineno__" 200 (.int 2 199)),(kE P "__static_attributes__" 201 (.ref 22)),(kE P "__weakref__" 203 (.ref 25)),(kE P "__doc__" 204 .none)] 3,#[]⟩),
 (24,⟨(.type "type"),none,.cls ⟨(Str.ofString "RoomError"),[(.type "ValueError")],[(.ref 24),(.type "ValueError"),(.type "Exception"),(.type "BaseException"),(.type "object")],23,(Str.ofString "RoomError"),true,[],[(.ref 37),(.ref 49),(.ref 61),(.ref 73),(.ref 85),(.ref 97),(.ref 109)],false,none,false⟩,#[(some (.ref 15)),none,(some (kS "RoomError" 189)),(some (kS "RoomError" 197)),(some (.builtin "ValueError.__new__")),(some (.bool true))]⟩),
 (36,⟨(.type "dict"),none,.dict #[(kE P "__module__" 214 (kS "slabroom.errors" 187)),(kE P "__firstlineno__" 218 (.int 4 217)),(kE P "__static_attributes__" 219 (.ref 35)),(kE P "__doc__" 220 .none)] 2,#[]⟩),
 (37,⟨(.type "type"),none,.cls ⟨(Str.ofString "BadPlan"),[(.ref 24)],[(.ref 37),(.ref 24),(.type "ValueError"),(.type "Exception"),(.type "BaseException"),(.type "object")],36,(Str.ofString "BadPlan"),true,[],[],false,none,false⟩,#[(some (.ref 28)),none,(some (kS "BadPlan" 207)),(some (kS "BadPlan" 215)),(some (.builtin "ValueError.__new__")),(some (.bool true))]⟩),
 (48,⟨(.type "dict"),none,.dict #[(kE P "__module__" 230 (kS "slabroom.errors" 187)),(kE P "__firstlineno__" 234 (.int 6 233)),(kE P "__static_attributes__" 235 (.ref 47)),(kE P "__doc__" 236 .none)] 2,#[]⟩),
 (49,⟨(.type "type"),none,.cls ⟨(Str.ofString "BadWish"),[(.ref 24)],[(.ref 49),(.ref 24),(.type "ValueError"),(.type "Exception"),(.type "BaseException"),(.type "object")],48,(Str.ofString "BadWish"),true,[],[],false,none,false⟩,#[(some (.ref 40)),none,(some (kS "BadWish" 223)),(some (kS "BadWish" 231)),(some (.builtin "ValueError.__new__")),(some (.bool true))]⟩),
 (60,⟨(.type "dict"),none,.dict #[(kE P "__module__" 246 (kS "slabroom.errors" 187)),(kE P "__firstlineno__" 250 (.int 8 249)),(kE P "__static_attributes__" 251 (.ref 59)),(kE P "__doc__" 252 .none)] 2,#[]⟩),
 (61,⟨(.type "type"),none,.cls ⟨(Str.ofString "TooLarge"),[(.ref 24)],[(.ref 61),(.ref 24),(.type "ValueError"),(.type "Exception"),(.type "BaseException"),(.type "object")],60,(Str.ofString "TooLarge"),true,[],[],false,none,false⟩,#[(some (.ref 52)),none,(some (kS "TooLarge" 239)),(some (kS "TooLarge" 247)),(some (.builtin "ValueError.__new__")),(some (.bool true))]⟩),
 (72,⟨(.type "dict"),none,.dict #[(kE P "__module__" 262 (kS "slabroom.errors" 187)),(kE P "__firstlineno__" 266 (.int 10 265)),(kE P "__static_attributes__" 267 (.ref 71)),(kE P "__doc__" 268 .none)] 2,#[]⟩),
 (73,⟨(.type "type"),none,.cls ⟨(Str.ofString "NoSize"),[(.ref 24)],[(.ref 73),(.ref 24),(.type "ValueError"),(.type "Exception"),(.type "BaseException"),(.type "object")],72,(Str.ofString "NoSize"),true,[],[],false,none,false⟩,#[(some (.ref 64)),none,(some (kS "NoSize" 255)),(some (kS "NoSize" 263)),(some (.builtin "ValueError.__new__")),(some (.bool true))]⟩),
 (84,⟨(.type "dict"),none,.dict #[(kE P "__module__" 278 (kS "slabroom.errors" 187)),(kE P "__firstlineno__" 282 (.int 12 281)),(kE P "__static_attributes__" 283 (.ref 83)),(kE P "__doc__" 284 .none)] 2,#[]⟩),
 (85,⟨(.type "type"),none,.cls ⟨(Str.ofString "NoRoom"),[(.ref 24)],[(.ref 85),(.ref 24),(.type "ValueError"),(.type "Exception"),(.type "BaseException"),(.type "object")],84,(Str.ofString "NoRoom"),true,[],[],false,none,false⟩,#[(some (.ref 76)),none,(some (kS "NoRoom" 271)),(some (kS "NoRoom" 279)),(some (.builtin "ValueError.__new__")),(some (.bool true))]⟩),
 (96,⟨(.type "dict"),none,.dict #[(kE P "__module__" 294 (kS "slabroom.errors" 187)),(kE P "__firstlineno__" 298 (.int 14 297)),(kE P "__static_attributes__" 299 (.ref 95)),(kE P "__doc__" 300 .none)] 2,#[]⟩),
 (97,⟨(.type "type"),none,.cls ⟨(Str.ofString "NotOut"),[(.ref 24)],[(.ref 97),(.ref 24),(.type "ValueError"),(.type "Exception"),(.type "BaseException"),(.type "object")],96,(Str.ofString "NotOut"),true,[],[],false,none,false⟩,#[(some (.ref 88)),none,(some (kS "NotOut" 287)),(some (kS "NotOut" 295)),(some (.builtin "ValueError.__new__")),(some (.bool true))]⟩),
 (108,⟨(.type "dict"),none,.dict #[(kE P "__module__" 310 (kS "slabroom.errors" 187)),(kE P "__firstlineno__" 314 (.int 16 313)),(kE P "__static_attributes__" 315 (.ref 107)),(kE P "__doc__" 316 .none)] 2,#[]⟩),
 (109,⟨(.type "type"),none,.cls ⟨(Str.ofString "OutOfThing"),[(.ref 24)],[(.ref 109),(.ref 24),(.type "ValueError"),(.type "Exception"),(.type "BaseException"),(.type "object")],108,(Str.ofString "OutOfThing"),true,[],[],false,none,false⟩,#[(some (.ref 100)),none,(some (kS "OutOfThing" 303)),(some (kS "OutOfThing" 311)),(some (.builtin "ValueError.__new__")),(some (.bool true))]⟩),
 kO 119 "__init__" "Shelf.__init__" 333 21 4 3 340,
 kU 125 "__init__" "Shelf.__init__" (kM 10 0) (kS "slabroom.shelf" 319),
 (129,⟨(.type "code"),none,.fields #[(kS "out" 343),(kS "Shelf.out" 344),(kS "/claim/cut.py" 345),(.int 26 0),(.int 1 0),(.int 0 0),(.int 0 0),(.int 3 0),(.ref 126),(.bool true),(.int 181 0),(.ref 127),.none,.none,.none,(.ref 128),(.int 346 0),(.int 26 0),(kS "/claim/cut.py" 347)],#[]⟩),
 kU 130 "out" "Shelf.out" (kM 10 1) (kS "slabroom.shelf" 319),
 (134,⟨(.type "code"),none,.fields #[(kS "free" 349),(kS "Shelf.free" 350),(kS "/claim/cut.py" 351),(.int 29 0),(.int 1 0),(.int 0 0),(.int 0 0),(.int 3 0),(.ref 131),(.bool true),(.int 181 0),(.ref 132),.none,.none,.none,(.ref 133),(.int 352 0),(.int 29 0),(kS "/claim/cut.py" 353)],#[]⟩),
 (135,⟨(.type "function"),none,.func ⟨(Str.ofString "free"),(Str.ofString "Shelf.free"),(kA (kM 10 2)),(.stmts (kB (kM 10 2))),(kC (kM 10 3)),3,[],.none,.none,.none,(kS "slabroom.shelf" 319),none,(.ref 134),.none,0⟩,#[]⟩),
 (139,⟨(.type "code"),none,.fields #[(kS "gone" 355),(kS "Shelf.gone" 356),(kS "/claim/cut.py" 357),(.int 32 0),(.int 1 0),(.int 0 0),(.int 0 0),(.int 3 0),(.ref 136),(.bool true),(.int 181 0),(.ref 137),.none,.none,.none,(.ref 138),(.int 358 0),(.int 32 0),(kS "/claim/cut.py" 359)],#[]⟩),
 kU 140 "gone" "Shelf.gone" (kM 10 3) (kS "slabroom.shelf" 319),
 kO 141 "take" "Shelf.take" 361 35 1 3 366,
 kU 147 "take" "Shelf.take" (kM 10 4) (kS "slabroom.shelf" 319),
 kO 148 "has" "Shelf.has" 369 42 2 3 374,
 kU 154 "has" "Shelf.has" (kM 10 5) (kS "slabroom.shelf" 319),
 kO 155 "give" "Shelf.give" 377 45 2 3 382,
 kU 161 "give" "Shelf.give" (kM 10 6) (kS "slabroom.shelf" 319),
 (163,⟨(.type "dict"),none,.dict #[(kE P "__module__" 328 (kS "slabroom.shelf" 319)),(kE P "__firstlineno__" 332 (.int 19 331)),(kE P "__init__" 342 (.ref 125)),(kE P "out" 348 (.ref 130)),(kE P "free" 354 (.ref 135)),(kE P "gone" 360 (.ref 140)),(kE P "take" 368 (.ref 147)),(kE P "has" 376 (.ref 154)),(kE P "give" 384 (.ref 161)),(kE P "__static_attributes__" 388 (.ref 162)),(kE P "__dict__" 390 (.ref 165)),(kE P "__weakref__" 392 (.ref 166)),(kE P "__doc__" 393 .none)] 4,#[]⟩),
 (164,⟨(.type "type"),none,.cls ⟨(Str.ofString "Shelf"),[(.type "object")],[(.ref 164),(.type "object")],163,(Str.ofString "Shelf"),true,[],[],false,none,false⟩,#[none,none,(some (kS "Shelf" 321)),(some (kS "Shelf" 329)),(some (.builtin "object.__new__")),(some (.bool true))]⟩),
 kO 176 "__init__" "Room.__init__" 410 52 2 3 415,
 kU 182 "__init__" "Room.__init__" (kM 12 0) (kS "slabroom.room" 396),
 (186,⟨(.type "code"),none,.fields #[(kS "pile" 418),(kS "Room.pile" 419),(kS "/claim/cut.py" 420),(.int 57 0),(.int 1 0),(.int 0 0),(.int 0 0),(.int 3 0),(.ref 183),(.bool true),(.int 181 0),(.ref 184),.none,.none,.none,(.ref 185),(.int 421 0),(.int 57 0),(kS "/claim/cut.py" 422)],#[]⟩),
 kU 187 "pile" "Room.pile" (kM 12 1) (kS "slabroom.room" 396),
 (191,⟨(.type "code"),none,.fields #[(kS "empty_pages" 424),(kS "Room.empty_pages" 425),(kS "/claim/cut.py" 426),(.int 60 0),(.int 1 0),(.int 0 0),(.int 0 0),(.int 3 0),(.ref 188),(.bool true),(.int 181 0),(.ref 189),.none,.none,.none,(.ref 190),(.int 427 0),(.int 60 0),(kS "/claim/cut.py" 428)],#[]⟩),
 (192,⟨(.type "function"),none,.func ⟨(Str.ofString "empty_pages"),(Str.ofString "Room.empty_pages"),(kA (kM 12 2)),(.stmts (kB (kM 12 2))),(kC (kM 12 17)),3,[],.none,.none,.none,(kS "slabroom.room" 396),none,(.ref 191),.none,0⟩,#[]⟩),
 (196,⟨(.type "code"),none,.fields #[(kS "of_size" 430),(kS "Room.of_size" 431),(kS "/claim/cut.py" 432),(.int 63 0),(.int 2 0),(.int 0 0),(.int 0 0),(.int 3 0),(.ref 193),(.bool true),(.int 181 0),(.ref 194),.none,.none,.none,(.ref 195),(.int 433 0),(.int 63 0),(kS "/claim/cut.py" 434)],#[]⟩),
 kU 197 "of_size" "Room.of_size" (kM 12 3) (kS "slabroom.room" 396),
 kO 198 "begin" "Room.begin" 436 66 3 3 442,
 kU 204 "begin" "Room.begin" (kM 12 4) (kS "slabroom.room" 396),
 kO 205 "found" "Room.found" 445 69 2 3 453,
 kU 211 "found" "Room.found" (kM 12 5) (kS "slabroom.room" 396),
 kO 212 "fresh" "Room.fresh" 456 79 2 3 462,
 kU 218 "fresh" "Room.fresh" (kM 12 6) (kS "slabroom.room" 396),
 kO 219 "wish" "Room.wish" 465 88 2 3 476,
 kU 225 "wish" "Room.wish" (kM 12 7) (kS "slabroom.room" 396),
 (229,⟨(.type "code"),none,.fields #[(kS "give_back" 479),(kS "Room.give_back" 480),(kS "/claim/cut.py" 481),(.int 102 0),(.int 2 0),(.int 0 0),(.int 0 0),(.int 3 0),(.ref 226),(.bool true),(.int 181 0),(.ref 227),.none,.none,.none,(.ref 228),(.int 482 0),(.int 102 0),(kS "/claim/cut.py" 483)],#[]⟩),
 kU 230 "give_back" "Room.give_back" (kM 12 8) (kS "slabroom.room" 396),
 kO 231 "trim" "Room.trim" 485 110 1 3 491,
 kU 237 "trim" "Room.trim" (kM 12 9) (kS "slabroom.room" 396),
 (241,⟨(.type "code"),none,.fields #[(kS "room_for" 494),(kS "Room.room_for" 495),(kS "/claim/cut.py" 496),(.int 116 0),(.int 2 0),(.int 0 0),(.int 0 0),(.int 3 0),(.ref 238),(.bool true),(.int 181 0),(.ref 239),.none,.none,.none,(.ref 240),(.int 497 0),(.int 116 0),(kS "/claim/cut.py" 498)],#[]⟩),
 kU 242 "room_for" "Room.room_for" (kM 12 10) (kS "slabroom.room" 396),
 kO 243 "cell" "Room.cell" 500 122 3 3 507,
 kU 249 "cell" "Room.cell" (kM 12 11) (kS "slabroom.room" 396),
 kO 250 "read" "Room.read" 510 128 3 3 516,
 kU 256 "read" "Room.read" (kM 12 12) (kS "slabroom.room" 396),
 kO 257 "write" "Room.write" 519 131 4 3 526,
 kU 263 "write" "Room.write" (kM 12 13) (kS "slabroom.room" 396),
 (267,⟨(.type "code"),none,.fields #[(kS "gather" 529),(kS "Room.gather" 530),(kS "/claim/cut.py" 531),(.int 134 0),(.int 2 0),(.int 0 0),(.int 0 0),(.int 3 0),(.ref 264),(.bool true),(.int 181 0),(.ref 265),.none,.none,.none,(.ref 266),(.int 532 0),(.int 134 0),(kS "/claim/cut.py" 533)],#[]⟩),
 kU 268 "gather" "Room.gather" (kM 12 14) (kS "slabroom.room" 396),
 (272,⟨(.type "code"),none,.fields #[(kS "moved" 535),(kS "Room.moved" 536),(kS "/claim/cut.py" 537),(.int 150 0),(.int 4 0),(.int 0 0),(.int 0 0),(.int 3 0),(.ref 269),(.bool true),(.int 181 0),(.ref 270),.none,.none,.none,(.ref 271),(.int 538 0),(.int 150 0),(kS "/claim/cut.py" 539)],#[]⟩),
 kU 273 "moved" "Room.moved" (kM 12 15) (kS "slabroom.room" 396),
 (277,⟨(.type "code"),none,.fields #[(kS "things" 541),(kS "Room.things" 542),(kS "/claim/cut.py" 543),(.int 157 0),(.int 1 0),(.int 0 0),(.int 0 0),(.int 3 0),(.ref 274),(.bool true),(.int 181 0),(.ref 275),.none,.none,.none,(.ref 276),(.int 544 0),(.int 157 0),(kS "/claim/cut.py" 545)],#[]⟩),
 kU 278 "things" "Room.things" (kM 12 16) (kS "slabroom.room" 396),
 (282,⟨(.type "code"),none,.fields #[(kS "shelves" 547),(kS "Room.shelves" 548),(kS "/claim/cut.py" 549),(.int 164 0),(.int 1 0),(.int 0 0),(.int 0 0),(.int 3 0),(.ref 279),(.bool true),(.int 181 0),(.ref 280),.none,.none,.none,(.ref 281),(.int 550 0),(.int 164 0),(kS "/claim/cut.py" 551)],#[]⟩),
 kU 283 "shelves" "Room.shelves" (kM 12 17) (kS "slabroom.room" 396),
 (285,⟨(.type "dict"),none,.dict #[(kE P "__module__" 405 (kS "slabroom.room" 396)),(kE P "__firstlineno__" 409 (.int 50 408)),(kE P "__init__" 417 (.ref 182)),(kE P "pile" 423 (.ref 187)),(kE P "empty_pages" 429 (.ref 192)),(kE P "of_size" 435 (.ref 197)),(kE P "begin" 444 (.ref 204)),(kE P "found" 455 (.ref 211)),(kE P "fresh" 464 (.ref 218)),(kE P "wish" 478 (.ref 225)),(kE P "give_back" 484 (.ref 230)),(kE P "trim" 493 (.ref 237)),(kE P "room_for" 499 (.ref 242)),(kE P "cell" 509 (.ref 249)),(kE P "read" 518 (.ref 256)),(kE P "write" 528 (.ref 263)),(kE P "gather" 534 (.ref 268)),(kE P "moved" 540 (.ref 273)),(kE P "things" 546 (.ref 278)),(kE P "shelves" 552 (.ref 283)),(kE P "__static_attributes__" 556 (.ref 284)),(kE P "__dict__" 558 (.ref 287)),(kE P "__weakref__" 560 (.ref 288)),(kE P "__doc__" 561 .none)] 4,#[]⟩),
 (286,⟨(.type "type"),none,.cls ⟨(Str.ofString "Room"),[(.type "object")],[(.ref 286),(.type "object")],285,(Str.ofString "Room"),true,[],[],false,none,false⟩,#[none,none,(some (kS "Room" 398)),(some (kS "Room" 406)),(some (.builtin "object.__new__")),(some (.bool true))]⟩),
 kO 291 "whole" "whole" 572 170 1 3 576,
 kU 297 "whole" "whole" (kF 17) (kS "slabroom.plans" 564),
 kO 298 "between" "between" 579 172 3 3 585,
 kU 304 "between" "between" (kF 18) (kS "slabroom.plans" 564),
 kO 312 "__init__" "Plan.__init__" 600 176 4 3 609,
 kU 318 "__init__" "Plan.__init__" (kM 19 0) (kS "slabroom.plans" 564),
 kO 319 "size_for" "Plan.size_for" 612 190 2 3 618,
 kU 325 "size_for" "Plan.size_for" (kM 19 1) (kS "slabroom.plans" 564),
 kO 326 "per" "Plan.per" 621 198 2 3 626,
 kU 332 "per" "Plan.per" (kM 19 2) (kS "slabroom.plans" 564),
 (334,⟨(.type "dict"),none,.dict #[(kE P "__module__" 595 (kS "slabroom.plans" 564)),(kE P "__firstlineno__" 599 (.int 174 598)),(kE P "__init__" 611 (.ref 318)),(kE P "size_for" 620 (.ref 325)),(kE P "per" 628 (.ref 332)),(kE P "__static_attributes__" 632 (.ref 333)),(kE P "__dict__" 634 (.ref 336)),(kE P "__weakref__" 636 (.ref 337)),(kE P "__doc__" 637 .none)] 4,#[]⟩),
 (335,⟨(.type "type"),none,.cls ⟨(Str.ofString "Plan"),[(.type "object")],[(.ref 335),(.type "object")],334,(Str.ofString "Plan"),true,[],[],false,none,false⟩,#[none,none,(some (kS "Plan" 588)),(some (kS "Plan" 596)),(some (.builtin "object.__new__")),(some (.bool true))]⟩),
 kO 340 "_law_cell_at" "_law_cell_at" 642 203 2 3 647,
 kU 346 "_law_cell_at" "_law_cell_at" (kF 21) (kS "law_uf060003_04" 640),
 kO 347 "_law_whole" "_law_whole" 650 207 1 3 654,
 kU 353 "_law_whole" "_law_whole" (kF 22) (kS "law_uf060003_04" 640),
 kO 354 "_law_sizes_by" "_law_sizes_by" 657 209 3 3 668,
 kU 360 "_law_sizes_by" "_law_sizes_by" (kF 23) (kS "law_uf060003_04" 640),
 kO 361 "_law_plan_by" "_law_plan_by" 671 224 1 3 679,
 kU 367 "_law_plan_by" "_law_plan_by" (kF 24) (kS "law_uf060003_04" 640),
 kO 368 "_law_size_by" "_law_size_by" 682 239 2 3 688,
 kU 374 "_law_size_by" "_law_size_by" (kF 25) (kS "law_uf060003_04" 640),
 kO 375 "_law_pairs" "_law_pairs" 691 244 1 3 696,
 kU 381 "_law_pairs" "_law_pairs" (kF 26) (kS "law_uf060003_04" 640),
 kO 382 "_law_gathered" "_law_gathered" 699 253 3 3 707,
 kU 388 "_law_gathered" "_law_gathered" (kF 27) (kS "law_uf060003_04" 640),
 kO 389 "_law_asked" "_law_asked" 710 262 4 3 719,
 kU 395 "_law_asked" "_law_asked" (kF 28) (kS "law_uf060003_04" 640),
 kO 396 "_law_step" "_law_step" 722 272 5 3 732,
 kU 402 "_law_step" "_law_step" (kF 29) (kS "law_uf060003_04" 640),
 kO 403 "_law_history" "_law_history" 735 289 4 3 744,
 kU 409 "_law_history" "_law_history" (kF 30) (kS "law_uf060003_04" 640),
 kO 410 "_law_step_by" "_law_step_by" 747 295 3 3 755,
 kU 416 "_law_step_by" "_law_step_by" (kF 31) (kS "law_uf060003_04" 640),
 kO 417 "_law_deed" "_law_deed" 758 301 5 3 766,
 kU 423 "_law_deed" "_law_deed" (kF 32) (kS "law_uf060003_04" 640),
 kO 424 "_law_due" "_law_due" 769 313 6 3 780,
 kU 430 "_law_due" "_law_due" (kF 33) (kS "law_uf060003_04" 640),
 kO 431 "_law_found" "_law_found" 783 325 5 3 793,
 kU 437 "_law_found" "_law_found" (kF 34) (kS "law_uf060003_04" 640),
 kO 438 "_law_by_name" "_law_by_name" 796 346 5 3 805,
 kU 444 "_law_by_name" "_law_by_name" (kF 35) (kS "law_uf060003_04" 640),
 kO 445 "_law_place_by" "_law_place_by" 808 360 4 3 816,
 kU 451 "_law_place_by" "_law_place_by" (kF 36) (kS "law_uf060003_04" 640),
 kO 452 "_law_stays" "_law_stays" 819 371 2 3 825,
 kU 458 "_law_stays" "_law_stays" (kF 37) (kS "law_uf060003_04" 640),
 kO 459 "law" "law" 828 376 1 3 844,
 kU 465 "law" "law" (kF 38) (kS "law_uf060003_04" 640)]
noncomputable def lv:List (String×Addr):=[("Shelf",164),("Room",286),("Plan",335)]
noncomputable def ka:List (String×Addr):=[("RoomError",24),("BadPlan",37),("BadWish",49),("TooLarge",61),("NoSize",73),("NoRoom",85),("NotOut",97),("OutOfThing",109)]
noncomputable def Gx (w:World) (hB:Heap) (os:OsState) (mg mb:Str->Option Value) (sa:Addr) (sv:List Value) (sn:List Int):Cx:={ prog:=PySem.Challenge.rw_uf060003_04.row.prog,w:=w,K:=K0 w.params,hB:=hB,os:=os,mg:=mg,mb:=mb,cls:=λc=>lv.lookup c,xcl:=λc=>ka.lookup c,sa:=sa,sv:=sv,sn:=sn }
def xL (f:Addr) (G:Cx):Prop:= ∀(s₁:Shared) (R:Result->Shared->Prop),G.hB=s₁.heap->s₁.os=G.os->s₁.gens = #[] ->
 (∀s',(∀b o,s₁.heap.get? b=some o->s'.heap.get? b=some o)->s'.os=s₁.os->s'.gens = #[]->R (.ok (.ret (.bool true))) s')->codeAny G.M callerA (.call (.ref f) ⟨[.ref G.sa],[]⟩) R s₁
structure Tp where
 w:World
 hB:Heap
 os:OsState
 mg:Str->Option Value
 mb:Str->Option Value
 sa:Addr
 sv:List Value
 sn:List Int
noncomputable def Tp.G (t:Tp):Cx:=Gx t.w t.hB t.os t.mg t.mb t.sa t.sv t.sn
def Tp.Bad (t:Tp):Prop:=bJ t.G/\ ¬xL 465 t.G
noncomputable def tp:Tp:= @Classical.epsilon Tp ⟨⟨aWorld 0,default,default,λ_=>none,λ_=>none,0,[],[]⟩⟩ Tp.Bad
noncomputable def G:Cx:=tp.G
noncomputable abbrev sn:List Int:=G.sn
theorem gv (h:bJ G->xL 465 G) (t:Tp) (c:bJ t.G):xL 465 t.G:=Classical.byContradiction λn =>
 have b:= @Classical.epsilon_spec Tp Tp.Bad ⟨t,c,n⟩
 b.2 (h b.1)
structure HJ (lt:Keyed->Keyed->Bool):Prop where
 asym:∀ {x y},lt x y=true->lt y x=false
 ntr:∀ {x y z},lt x y=false->lt y z=false->lt x z=false
structure sV (M:Model) (A:Around) (E:Value->Shared->Prop) (s:Shared) (lt:Keyed->Keyed->Bool) (ok:Keyed->Prop) (κ:SortKind):Prop where
 lin:HJ lt
 ask:∀ {x y:Keyed} {st:SortSt} {Q:Option Bool->SortSt->Prop},ok x->ok y->kindOf st=κ->Q (some (lt x y)) st->wpS M A E s (lt' x y) Q st
def Le (lt:Keyed->Keyed->Bool) (x y:Keyed):Prop:=lt y x=false
def rV (lt:Keyed->Keyed->Bool) (w c:List Keyed):Prop:=c.Pairwise (Le lt)/\c.Perm w
structure TT where
 A:Around
 E:Value->Shared->Prop
 s:Shared
 lt:Keyed->Keyed->Bool
 ok:Keyed->Prop
 κ:SortKind
def TT.Goal (t:TT):Prop:=sV G.M t.A t.E t.s t.lt t.ok t.κ-> ∀W:List Keyed,(∀x∈W,t.ok x)-> ∀st:SortSt,kindOf st=t.κ->failedOf st=none->pendingOf st = #[]->(arrOf st).toList=W-> ∀Q:Unit->SortSt->Prop,
 (∀c st',failedOf st'=none->(arrOf st').toList=c->rV t.lt W c->Q () st')->wpS G.M t.A t.E t.s sortRuns' Q st
noncomputable def tt:TT:= @Classical.epsilon TT ⟨⟨callerA,λ_ _=>True,({}:Shared),λ_ _=>true,λ_=>True,tuples' true⟩⟩ λt=> ¬t.Goal
noncomputable def Tq.A:Around:=tt.A
noncomputable def Tq.E:Value->Shared->Prop:=tt.E
noncomputable def Tq.s:Shared:=tt.s
noncomputable def Tq.lt:Keyed->Keyed->Bool:=tt.lt
noncomputable def Tq.ok:Keyed->Prop:=tt.ok
noncomputable def Tq.κ:SortKind:=tt.κ
noncomputable abbrev Tq.prog:Program:=G.prog
noncomputable abbrev Tq.w:World:=G.w
noncomputable abbrev Tq.M:Model:=G.M
section
open Mine.Lake.Tq
set_option linter.unusedVariables false
open PySem PyProof.Rows
theorem J0 {lo hi:Nat} (h:¬lo>=hi):lo<=lo+(hi-lo)/2/\lo+(hi-lo)/2<hi :=
 have h:=Nat.lt_of_not_le h
 ⟨aaJ _ _,Nat.lt_of_lt_of_eq (Nat.add_lt_add_left (Nat.div_lt_self (Nat.sub_pos_of_lt h) ∅) lo) (Nat.add_sub_cancel' (Nat.le_of_lt h))⟩
theorem JZ {h la ofs:Nat} (a:la<ofs) (b:la<=h):h+1-min ofs (h+1)<=h-la :=
 aam (Nat.sub_le_sub_left (Nat.le_min.mpr ⟨a,Nat.succ_le_succ b⟩) (h+1)) (Nat.le_of_eq (Nat.add_sub_add_right h 1 la))
noncomputable def ft:Bool->Keyed->Array Keyed->Nat->Nat->Nat->StateT SortSt Sem (Option Nat):=sortPriv% PySem.Builtin.gallop
noncomputable def fO (left:Bool) (key:Keyed) (arr:Array Keyed) (base i:Nat):StateT SortSt Sem (Option Bool):=do
 let x <- elem' arr (base+i)
 if left then lt' x key else return (<- lt' key x).map (!·)
theorem Bc (left:Bool) (key:Keyed) (arr:Array Keyed) (base n hint:Nat):ft left key arr base n hint=(do
 let mut lastofs:=0
 let mut ofs:=1
 let mut lo:=0
 let mut hi:=0
 let some right <- fO left key arr base hint | return none
 if right then
  let maxofs:=n-hint
  for _ in [0:n] do
   if ofs>=maxofs then break
   let some more <- fO left key arr base (hint+ofs) | return none
   if !more then break
   lastofs:=ofs
   ofs:=2*ofs+1
  lo:=hint+lastofs+1
  hi:=hint+min ofs maxofs
 else
  let maxofs:=hint+1
  for _ in [0:n] do
   if ofs>=maxofs then break
   let some found <- fO left key arr base (hint-ofs) | return none
   if found then break
   lastofs:=ofs
   ofs:=2*ofs+1
  lo:=hint+1-min ofs maxofs
  hi:=hint-lastofs
 for _ in [0:n] do
  if lo>=hi then break
  let m:=lo+(hi-lo)/2
  let some more <- fO left key arr base m | return none
  if more then lo:=m+1 else hi:=m
 return some hi):=rfl
section
noncomputable def Hh (lt:Keyed->Keyed->Bool) (left:Bool) (key x:Keyed):Bool:=if left then lt x key else !lt key x
theorem bF {arr:Array Keyed} {i:Nat} {x:Keyed} {st:SortSt} {Q:Keyed->SortSt->Prop} (h:arr[i]? = some x) (hQ:Q x st):wpS M A E s (elem' arr i) Q st:=by
 rw [elem'_eq,h];exact wpS_pure hQ
theorem BN (a:sV M A E s lt ok κ) {left:Bool} {key x:Keyed} {arr:Array Keyed} {base i:Nat} {st:SortSt} {Q:Option Bool->SortSt->Prop} (hx:arr[base+i]? = some x) (ox:ok x) (okk:ok key) (hk:kindOf st=κ) (hQ:Q (some (Hh lt left key x)) st) :
  wpS M A E s (fO left key arr base i) Q st:=by
 unfold fO
 refine wpS_bind (bF hx ?_)
 cases left with
 | true=>exact a.ask ox okk hk hQ
 | false=>exact wpS_bind (a.ask okk ox hk (wpS_pure hQ))
noncomputable def Dg (left:Bool) (key:Keyed) (arr:Array Keyed) (base n lo0 hi0:Nat):StateT SortSt Sem (Option Nat):=do
 let mut lo:=lo0
 let mut hi:=hi0
 for _ in [0:n] do
  if lo>=hi then break
  let m:=lo+(hi-lo)/2
  let some more <- fO left key arr base m | return none
  if more then lo:=m+1 else hi:=m
 return some hi
section
variable {left:Bool} {key:Keyed} {arr:Array Keyed} {base n hint:Nat} {st:SortSt} {Q:Option Nat->SortSt->Prop} {b:Nat->Bool}
 (ask:∀ {i:Nat} {Q:Option Bool->SortSt->Prop},i<n->Q (some (b i)) st->wpS M A E s (fO left key arr base i) Q st)
 (mono:∀i j,i<=j->j<n->b j=true->b i=true)
 (hQ:∀k,k<=n->(∀i,i<k->b i=true)->(∀i,k<=i->i<n->b i=false)->Q (some k) st)
include ask mono hQ
theorem yk {m:Nat} (h:b m=false):∀i,m<=i->i<n->b i=false:=λi h1 h2=>by
 cases e:b i with
 | false=>rfl
 | true=>rw [mono m i h1 h2 e] at h;cases h
theorem AF {lo hi:Nat} (h1:lo<=hi) (h2:hi<=n) (h3:∀i,i<lo->b i=true) (h4:∀i,hi<=i->i<n->b i=false):wpS M A E s (Dg left key arr base n lo hi) Q st:=by
 unfold Dg
 refine wpS_bind (wpS_forRange (I:=λx c st'=>st'=st/\ ∃lo hi,c=(none,lo,hi)/\lo<=hi/\hi<=n/\hi-lo+x<=n/\(∀i,i<lo->b i=true)/\ ∀i,hi<=i->i<n->b i=false) ?step ?gv ⟨rfl,lo,hi,rfl,h1,h2,aS 0x1092c0020110012 [_,_,_] rfl h2 (Nat.sub_le _ _),h3,h4⟩)
 case gv =>
  rintro c st' ⟨rfl,lo,hi,rfl,h1,h2,h3,h4,h5⟩
  rw [Nat.zero_max] at h3
  obtain rfl:lo=hi:=aaf (h1) (aS 0x32030c201110c012 [_,_,_,_] rfl h3 (sA _ _))
  exact wpS_pure (hQ lo h2 h4 h5)
 case step =>
  rintro x c st' _ hx ⟨rfl,lo,hi,rfl,h1,h2,h3,h4,h5⟩
  dsimp only
  by_cases hc:lo>=hi
  ·rw [if_pos hc]
   obtain rfl:lo=hi:=aaf (h1) (hc)
   exact wpS_pure (wpS_pure (hQ lo h2 h4 h5))
  ·rw [if_neg hc]
   refine bz (lo+(hi-lo)/2) λm em=> ?_
   have hm2:=J0 hc
   rw [em] at hm2 ⊢
   refine wpS_bind (ask (mK 0x121021110012 h2 hm2.2) ?_)
   cases hm:b m with
   | true =>
    refine wpS_pure ⟨rfl,m+1,hi,rfl,cM 0x1190c010111 hm2.2,h2,(Nat.le_total _ _).elim (λy2=>hH [_,_,_,_,_,_,_,_] [] 0x2191c6c030c7017195c6c21543c21210c014 h3 em (aaa y2) (sA _ _)) (λy2=>mK 0x1190c2c00922110112 hx (aaT y2)),λi hi'=>mono i m (aS 0x100191c0111 [_,_] rfl hi') (mK 0x121021110012 h2 hm2.2) hm,h5⟩
   | false =>
    exact wpS_pure ⟨rfl,lo,m,rfl,aS 0x200210c211 [_,_,_] rfl em,mK 0x120021110012 h2 hm2.2,hH [_,_,_,_,_,_,_] [] 0x2191c5c060c401365c214311210c014 h3 hm2.2 (aaa (mK 0x200210c211 em)) (sA _ _),h4,yk ask mono hQ hm⟩
theorem FS (hh:hint<n) (hb:b hint=true):wpS M A E s (do
  let mut lastofs:=0
  let mut ofs:=1
  for _ in [0:n] do
   if ofs>=n-hint then break
   let some more <- fO left key arr base (hint+ofs) | return none
   if !more then break
   lastofs:=ofs
   ofs:=2*ofs+1
  Dg left key arr base n (hint+lastofs+1) (hint+min ofs (n-hint))) Q st:=by
 have go:∀la ofs,la<ofs->b (hint+la)=true->hint+la<n->(n-hint<=ofs\/(hint+ofs<n/\b (hint+ofs)=false))->wpS M A E s (Dg left key arr base n (hint+la+1) (hint+min ofs (n-hint))) Q st:=λla ofs a1 a2 a3 a4=>by
  refine AF ask mono hQ (Nat.add_le_add_left (Nat.le_min.mpr ⟨a1,vS 0x3191c003c201210c112 a3 (sA _ _)⟩) hint) (aS 0x302c0321c2110012 [_,_,_,_] rfl (Nat.min_le_right _ _) (aaa (aS 0x10010111 [_,_] rfl hh))) (λi hi=>mono i (hint+la) (aS 0x21c001921cc0111 [_,_,_] rfl hi) a3 a2) λi h1 h2=> ?_
  rcases a4 with a4 | ⟨a4,a5⟩
  ·rw [Nat.min_eq_right a4] at h1;exact absurd h2 (vS 0x32501c301210c012 h1 (sA _ _))
  ·rw [Nat.min_eq_left (by exact vS 0x31003c201210c112 a4 (sA _ _))] at h1;exact yk ask mono hQ a5 i h1 h2
 refine wpS_bind (wpS_forRange (I:=λx c st'=>st'=st/\ ∃la ofs,c=(none,la,ofs)/\la<ofs/\x+1<=ofs/\b (hint+la)=true/\hint+la<n) ?step ?gv ⟨rfl,0,1,rfl,aS 0x190910 [] rfl,aS 0x191909c00 [] rfl,hb,hh⟩)
 case gv =>
  rintro c st' ⟨rfl,la,ofs,rfl,h1,h2,h3,h4⟩
  rw [Nat.zero_max] at h2
  exact go la ofs h1 h3 h4 (.inl (aS 0x12002011190c012 [_,_,_] rfl h2 (Nat.sub_le _ _)))
 case step =>
  rintro x c st' _ hx ⟨rfl,la,ofs,rfl,h1,h2,h3,h4⟩
  dsimp only
  by_cases hc:ofs>=n-hint
  ·rw [if_pos hc];exact wpS_pure (go la ofs h1 h3 h4 (.inl hc))
  ·rw [if_neg hc]
   refine wpS_bind (ask (aS 0x312c1320c2110412 [_,_,_,_] rfl hc (aaa (aS 0x10010111 [_,_] rfl hh))) ?_)
   cases hm:b (hint+ofs) with
   | true=>exact wpS_pure ⟨rfl,ofs,2*ofs+1,rfl,aS 0x19002dc010 [_] rfl,aS 0x19102dc19190cc01190c011 [_,_] rfl h2,hm,aS 0x312c1320c2110412 [_,_,_,_] rfl hc (aaa (aS 0x10010111 [_,_] rfl hh))⟩
   | false=>exact wpS_pure (go la ofs h1 h3 h4 (.inr ⟨aS 0x312c1320c2110412 [_,_,_,_] rfl hc (aaa (aS 0x10010111 [_,_] rfl hh)),hm⟩))
theorem FR (hh:hint<n) (hb:b hint=false):wpS M A E s (do
  let mut lastofs:=0
  let mut ofs:=1
  for _ in [0:n] do
   if ofs>=hint+1 then break
   let some found <- fO left key arr base (hint-ofs) | return none
   if found then break
   lastofs:=ofs
   ofs:=2*ofs+1
  Dg left key arr base n (hint+1-min ofs (hint+1)) (hint-lastofs)) Q st:=by
 have go:∀la ofs,la<ofs->b (hint-la)=false->la<=hint->(hint+1<=ofs\/(ofs<=hint/\b (hint-ofs)=true))->wpS M A E s (Dg left key arr base n (hint+1-min ofs (hint+1)) (hint-la)) Q st:=λla ofs a1 a2 a3 a4=>by
  refine AF ask mono hQ (JZ a1 a3) (aS 0x120020110112 [_,_,_] rfl hh (Nat.sub_le _ _)) (λi hi=> ?_) (yk ask mono hQ a2)
  rcases a4 with a4 | ⟨a4,a5⟩
  ·rw [Nat.min_eq_right a4,Nat.sub_self] at hi;exact absurd hi (Nat.not_lt_zero _)
  ·rw [Nat.min_eq_left (by exact cM 0x191c0010011 a4)] at hi;exact mono i (hint-ofs) (by exact Bx 0x300192c41c2143c20110113 hi (sA _ _) (aaa (cM 0x191c0010011 a4))) (aS 0x121020110112 [_,_,_] rfl hh (Nat.sub_le _ _)) a5
 refine wpS_bind (wpS_forRange (I:=λx c st'=>st'=st/\ ∃la ofs,c=(none,la,ofs)/\la<ofs/\x+1<=ofs/\b (hint-la)=false/\la<=hint) ?step ?gv ⟨rfl,0,1,rfl,aS 0x190910 [] rfl,aS 0x191909c00 [] rfl,hb,aS 0x900 [_] rfl⟩)
 case gv =>
  rintro c st' ⟨rfl,la,ofs,rfl,h1,h2,h3,h4⟩
  rw [Nat.zero_max] at h2
  exact go la ofs h1 h3 h4 (.inl (aS 0x2190c02191c0110112 [_,_,_] rfl hh h2))
 case step =>
  rintro x c st' _ hx ⟨rfl,la,ofs,rfl,h1,h2,h3,h4⟩
  dsimp only
  by_cases hc:ofs>=hint+1
  ·rw [if_pos hc];exact wpS_pure (go la ofs h1 h3 h4 (.inl hc))
  ·rw [if_neg hc]
   refine wpS_bind (ask (aS 0x121020110112 [_,_,_] rfl hh (Nat.sub_le _ _)) ?_)
   cases hm:b (hint-ofs) with
   | true=>exact wpS_pure (go la ofs h1 h3 h4 (.inr ⟨aS 0x101190c411 [_,_] rfl hc,hm⟩))
   | false=>exact wpS_pure ⟨rfl,ofs,2*ofs+1,rfl,aS 0x19002dc010 [_] rfl,aS 0x19102dc19190cc01190c011 [_,_] rfl h2,hm,aS 0x101190c411 [_,_] rfl hc⟩
end
theorem lV (a:sV M A E s lt ok κ) {left:Bool} {key:Keyed} {arr:Array Keyed} {base n hint:Nat} {st:SortSt} {Q:Option Nat->SortSt->Prop} {f:Nat->Keyed} (hk:kindOf st=κ) (okk:ok key)
  (hf:∀i,i<n->arr[base+i]? = some (f i)/\ok (f i)) (hh:hint<n) (mono:∀i j,i<=j->j<n->Hh lt left key (f j)=true->Hh lt left key (f i)=true)
  (hQ:∀k,k<=n->(∀i,i<k->Hh lt left key (f i)=true)->(∀i,k<=i->i<n->Hh lt left key (f i)=false)->Q (some k) st) :
  wpS M A E s (ft left key arr base n hint) Q st:=by
 have ask:∀ {i:Nat} {Q:Option Bool->SortSt->Prop},i<n->Q (some (Hh lt left key (f i))) st->wpS M A E s (fO left key arr base i) Q st:=λ{i Q} hi h=>BN a (hf i hi).1 (hf i hi).2 okk hk h
 obtain ⟨b,eb⟩:∃b:Nat->Bool,(λi=>Hh lt left key (f i))=b:=⟨_,rfl⟩
 have eb':∀i,Hh lt left key (f i)=b i:=λi=>by rw [<- eb]
 simp only [eb'] at ask mono hQ
 rw [Bc]
 refine wpS_bind (ask hh ?_)
 cases hb:b hint with
 | true=>exact FS ask mono hQ hh hb
 | false=>exact FR ask mono hQ hh hb
end
set_option linter.unusedSectionVars false
open PySem PyProof.Rows
noncomputable def uG:Array Keyed->Array Keyed->StateT SortSt Sem (Array Keyed):=sortPriv% PySem.Builtin.mergeLo
noncomputable def fi:Nat->StateT SortSt Sem Unit:=sortPriv% PySem.Builtin.setMinGallop
theorem eV (g:Nat):fi g=modify λs=>SortSt.mk' (kindOf s) (arrOf s) (pendingOf s) g (failedOf s):=rfl
abbrev lx (a b out:Array Keyed) (ia ib:Nat):=out++a.extract ia a.size++b.extract ib b.size
abbrev ux (a b out:Array Keyed) (ia ib:Nat):=out++b.extract ib b.size++a.extract ia a.size
section
variable {lt  : Keyed->Keyed->Bool}
theorem HJ.trans (h:HJ lt) {x y z:Keyed} (a:Le lt x y) (b:Le lt y z):Le lt x z:=h.ntr b a
theorem HJ.of_lt (h:HJ lt) {x y:Keyed} (a:lt x y=true):Le lt x y:=h.asym a
structure ML (lt:Keyed->Keyed->Bool) (w o u v:List Keyed):Prop where
 so:o.Pairwise (Le lt)
 su:u.Pairwise (Le lt)
 sv:v.Pairwise (Le lt)
 bu:∀x∈o,∀y∈u,Le lt x y
 bv:∀x∈o,∀y∈v,Le lt x y
 pm:(o++(u++v)).Perm w
theorem ML.left {w o u1 u2 v:List Keyed} (h:ML lt w o (u1++u2) v) (hx:∀x∈u1,∀y∈v,Le lt x y):ML lt w (o++u1) u2 v:=by
 obtain ⟨s1,s2,s3⟩:=aar.mp h.su
 refine ⟨aar.mpr ⟨h.so,s1,λx a y b=>h.bu x a y (aaK _ b)⟩,s2,h.sv,λx a y b=> ?_,λx a y b=> ?_,?_⟩
 ·rcases aao.mp a with a | a
  ·exact h.bu x a y (aau _ b)
  ·exact s3 x a y b
 ·rcases aao.mp a with a | a
  ·exact h.bv x a y b
  ·exact hx x a y b
 ·haveI:=h.pm
  simpa [aae] using this
theorem ML.right {w o u v1 v2:List Keyed} (h:ML lt w o u (v1++v2)) (hx:∀x∈v1,∀y∈u,Le lt x y):ML lt w (o++v1) u v2:=by
 obtain ⟨s1,s2,s3⟩:=aar.mp h.sv
 refine ⟨aar.mpr ⟨h.so,s1,λx a y b=>h.bv x a y (aaK _ b)⟩,h.su,s2,λx a y b=> ?_,λx a y b=> ?_,?_⟩
 ·rcases aao.mp a with a | a
  ·exact h.bu x a y b
  ·exact hx x a y b
 ·rcases aao.mp a with a | a
  ·exact h.bv x a y (aau _ b)
  ·exact s3 x a y b
 ·refine List.Perm.trans ?_ h.pm
  rw [aae]
  refine List.Perm.append_left _ ?_
  rw [<- aae,<- aae]
  exact List.Perm.append_right _ List.perm_append_comm
theorem ML.endL {w o u v:List Keyed} (h:ML lt w o u v) (hx:∀x∈u,∀y∈v,Le lt x y):rV lt w (o++u++v) :=
 ⟨aar.mpr ⟨aar.mpr ⟨h.so,h.su,h.bu⟩,h.sv,λx a y b=>(aao.mp a).elim (λa=>h.bv x a y b) λa=>hx x a y b⟩,by rw [aae];exact h.pm⟩
theorem ML.endR {w o u v:List Keyed} (h:ML lt w o u v) (hx:∀x∈v,∀y∈u,Le lt x y):rV lt w (o++v++u) :=
 ⟨aar.mpr ⟨aar.mpr ⟨h.so,h.sv,h.bv⟩,h.su,λx a y b=>(aao.mp a).elim (λa=>h.bu x a y b) λa=>hx x a y b⟩,by rw [aae];exact (List.Perm.append_left _ List.perm_append_comm).trans h.pm⟩
theorem ec (a:Array Keyed) (i j:Nat):(a.extract i j).toList=(a.toList.drop i).take (j-i):=by
 rw [Array.toList_extract]
theorem tP (a:Array Keyed) (i:Nat):(a.extract i a.size).toList=a.toList.drop i:=by
 rw [ec]
 exact List.take_of_length_le (by rw [List.length_drop,aaX];exact aaD _)
theorem jw {a:Array Keyed} {i:Nat} {x:Keyed} (h:a[i]? = some x):a.toList.drop i=x::a.toList.drop (i+1):=by
 rw [<- aaz] at h
 obtain ⟨hi,e⟩:=aab.mp h
 rw [List.drop_eq_getElem_cons hi,e]
structure MP (lt:Keyed->Keyed->Bool) (ok:Keyed->Prop) (a b:Array Keyed):Prop where
 sa:a.toList.Pairwise (Le lt)
 sb:b.toList.Pairwise (Le lt)
 oa:∀x∈a.toList,ok x
 ob:∀x∈b.toList,ok x
 last:∀x∈b.toList,∀y∈a.toList.drop (a.size-1),Le lt x y
def Rn (lt:Keyed->Keyed->Bool) (a b out:Array Keyed) (ia ib:Nat):Prop:=ML lt (a.toList++b.toList) out.toList (a.toList.drop ia) (b.toList.drop ib)
variable {a b out:Array Keyed} {ia ib k:Nat}
theorem Rn.done (h:Rn lt a b out ia ib) (hb:b.size<=ib\/a.size<=ia):rV lt (a.toList++b.toList) (lx a b out ia ib).toList:=by
 rw [aaY,aaY,tP,tP]
 refine ML.endL h λx hx y hy=> ?_
 rcases hb with hb | hb
 ·rw [List.drop_eq_nil_of_le (by rw [aaX];exact hb)] at hy;cases hy
 ·rw [List.drop_eq_nil_of_le (by rw [aaX];exact hb)] at hx;cases hx
theorem Rn.last (p:MP lt ok a b) (h:Rn lt a b out ia ib) (ha:ia+1=a.size):rV lt (a.toList++b.toList) (ux a b out ia ib).toList:=by
 rw [aaY,aaY,tP,tP]
 refine ML.endR h λx hx y hy=>p.last x (List.mem_of_mem_drop hx) y ?_
 rw [show a.size-1=ia from aaf (aS 0x201192c211190c312 [_,_,_] rfl ha (aaa (aS 0x11901190c211 [_,_] rfl ha))) (aS 0x200192c1011190c212 [_,_,_] rfl ha (sA _ _))];exact hy
theorem Rn.pushB {x:Keyed} (h:Rn lt a b out ia ib) (hx:b[ib]? = some x) (hl:∀y∈a.toList.drop ia,Le lt x y):Rn lt a b (out.push x) ia (ib+1):=by
 unfold Rn at h ⊢
 rw [jw hx] at h
 rw [Array.toList_push]
 exact ML.right (v1:=[x]) h λy hy=>by rw [aaj.mp hy];exact hl
theorem Rn.pushA {x:Keyed} (h:Rn lt a b out ia ib) (hx:a[ia]? = some x) (hl:∀y∈b.toList.drop ib,Le lt x y):Rn lt a b (out.push x) (ia+1) ib:=by
 unfold Rn at h ⊢
 rw [jw hx] at h
 rw [Array.toList_push]
 exact ML.left (u1:=[x]) h λy hy=>by rw [aaj.mp hy];exact hl
theorem Rn.manyA (h:Rn lt a b out ia ib) (hl:∀x∈(a.toList.drop ia).take k,∀y∈b.toList.drop ib,Le lt x y):Rn lt a b (out++a.extract ia (ia+k)) (ia+k) ib:=by
 unfold Rn at h ⊢
 rw [aaY,ec,aaA]
 rw [<- aaU k (a.toList.drop ia),List.drop_drop] at h
 exact ML.left h hl
theorem Rn.manyB (h:Rn lt a b out ia ib) (hl:∀x∈(b.toList.drop ib).take k,∀y∈a.toList.drop ia,Le lt x y):Rn lt a b (out++b.extract ib (ib+k)) ia (ib+k):=by
 unfold Rn at h ⊢
 rw [aaY,ec,aaA]
 rw [<- aaU k (b.toList.drop ib),List.drop_drop] at h
 exact ML.right h hl
end
open PySem PyProof.Rows
structure js (st st':SortSt):Prop where
 k:kindOf st'=kindOf st
 a:arrOf st'=arrOf st
 p:pendingOf st'=pendingOf st
 f:failedOf st'=failedOf st
theorem js.refl (st:SortSt):js st st:=⟨rfl,rfl,rfl,rfl⟩
theorem js.gal {st st':SortSt} (h:js st st') (g:Nat):js st (SortSt.mk' (kindOf st') (arrOf st') (pendingOf st') g (failedOf st')):=⟨h.k,h.a,h.p,h.f⟩
section
variable {a b:Array Keyed}
theorem eK {x:Array Keyed} {i:Nat} (h:i<x.size):∃v,x[i]? = some v/\v∈x.toList:=⟨x[i],Array.getElem?_eq_getElem h,by simp⟩
theorem sG {x:Array Keyed} {i j:Nat} {v:Keyed} (h:x[j]? = some v) (hij:i<=j):v∈x.toList.drop i:=by
 rw [<- aaz] at h
 refine aaN (i:=j-i) ?_
 rw [List.getElem?_drop,Nat.add_sub_cancel' hij];exact h
theorem lD {x:Array Keyed} (p:x.toList.Pairwise (Le lt)) {i:Nat} {v:Keyed} (h:x[i]? = some v):∀y∈x.toList.drop (i+1),Le lt v y:=by
 haveI:=p.drop (i:=i)
 rw [jw h] at this
 exact (aaM.mp this).1
theorem lt_size {x:Array Keyed} {i:Nat} {v:Keyed} (h:x[i]? = some v):i<x.size:=(Array.getElem?_eq_some_iff.mp h).1
theorem jq {x:Array Keyed} {i k:Nat} {v:Keyed} (h:v∈(x.toList.drop i).take k):∃j,j<k/\x[i+j]? = some v:=by
 obtain ⟨j,hj,e⟩:=List.getElem_of_mem h
 rw [List.length_take] at hj
 refine ⟨j,aS 0x201210110112 [_,_,_] rfl hj (Nat.min_le_left _ _),?_⟩
 rw [List.getElem_take,List.getElem_drop] at e
 rw [<- aaz,<- e]
 exact aak _
theorem zt {x:Array Keyed} {i:Nat} {v:Keyed} (h:v∈x.toList.drop i):∃j,i<=j/\x[j]? = some v:=by
 obtain ⟨j,hj,e⟩:=List.getElem_of_mem h
 refine ⟨i+j,aaJ _ _,?_⟩
 rw [List.getElem_drop] at e
 rw [<- aaz,<- e]
 exact aak _
theorem FG (h:HJ lt) {x:Array Keyed} (p:x.toList.Pairwise (Le lt)) {i j:Nat} {u v:Keyed} (hij:i<=j) (hu:x[i]? = some u) (hv:x[j]? = some v):i=j\/Le lt u v:=by
 rcases Nat.lt_or_ge i j with hlt | hge
 ·exact .inr (lD p hu v (sG hv hlt))
 ·exact .inl (aaf (hij) (hge))
theorem FT (an:sV (model prog w) A E s lt ok κ) {x:Array Keyed} (p:x.toList.Pairwise (Le lt)) (ox:∀v∈x.toList,ok v) {key:Keyed} (okk:ok key) {st:SortSt} (hk:kindOf st=κ) {i n hint:Nat} (hn:i+n<=x.size) (hh:hint<n) {Q:Option Nat->SortSt->Prop}
  (hQ:∀k,k<=n->(∀j v,i<=j->j<i+k->x[j]? = some v->Le lt v key)->(∀j v,i+k<=j->j<i+n->x[j]? = some v->lt key v=true)->Q (some k) st) :
  wpS (model prog w) A E s (ft false key x i n hint) Q st:=by
 have hf:∀j,j<n->x[i+j]? = some ((x[i+j]?).getD key)/\ok ((x[i+j]?).getD key):=λj hj=>by
  obtain ⟨v,e,m⟩:=eK (x:=x) (i:=i+j) (aS 0x230c11311210c012 [_,_,_,_] rfl hn hj)
  rw [e];exact ⟨rfl,ox v m⟩
 refine lV an (f:=λj=>(x[i+j]?).getD key) hk okk hf hh (λj l hjl hl hb=> ?_) λk hkn h1 h2=>hQ k hkn (λj v hj hj2 hv=> ?_) λj v hj hj2 hv=> ?_
 ·haveI e1:=(hf j (aS 0x201211110012 [_,_,_] rfl hjl hl)).1
  haveI e2:=(hf l hl).1
  have hb':(!lt key ((x[i+l]?).getD key))=true:=hb
  show (!lt key ((x[i+j]?).getD key))=true
  rcases FG an.lin p (aS 0x12c02c010011 [_,_,_] rfl hjl) e1 e2 with h | h
  ·rw [show j=l from aaf (aS 0x21020c10c211 [_,_,_] rfl h) (aS 0x12020c10c311 [_,_,_] rfl h)];exact hb'
  ·rw [Bool.not_eq_true'] at hb' ⊢
   exact an.lin.trans h hb'
 ·haveI:=h1 (j-i) (aS 0x231013c2121c0112 [_,_,_,_] rfl hj2 (aaa hj))
  haveI e:i+(j-i)=j:=aaf (aS 0x201c0210c211 [_,_,_] rfl (aaa hj)) (aS 0x12c0021c0011 [_,_,_] rfl (sA _ _))
  rw [e,hv] at this
  haveI:(!lt key v)=true:=this
  rw [Bool.not_eq_true'] at this;exact this
 ·haveI:=h2 (j-i) (aS 0x31003c201210c012 [_,_,_,_] rfl hj (sA _ _)) (aS 0x231013c2121c0112 [_,_,_,_] rfl hj2 (aaa (aS 0x200210c011 [_,_,_] rfl hj)))
  haveI e:i+(j-i)=j:=aaf (aS 0x201c0210c211 [_,_,_] rfl (aaa (aS 0x200210c011 [_,_,_] rfl hj))) (aS 0x12c0021c0011 [_,_,_] rfl (sA _ _))
  rw [e,hv] at this
  haveI:(!lt key v)=false:=this
  rw [Bool.not_eq_false'] at this;exact this
theorem FU (an:sV (model prog w) A E s lt ok κ) {x:Array Keyed} (p:x.toList.Pairwise (Le lt)) (ox:∀v∈x.toList,ok v) {key:Keyed} (okk:ok key) {st:SortSt} (hk:kindOf st=κ) {i n hint:Nat} (hn:i+n<=x.size) (hh:hint<n) {Q:Option Nat->SortSt->Prop}
  (hQ:∀k,k<=n->(∀j v,i<=j->j<i+k->x[j]? = some v->lt v key=true)->(∀j v,i+k<=j->j<i+n->x[j]? = some v->Le lt key v)->Q (some k) st) :
  wpS (model prog w) A E s (ft true key x i n hint) Q st:=by
 have hf:∀j,j<n->x[i+j]? = some ((x[i+j]?).getD key)/\ok ((x[i+j]?).getD key):=λj hj=>by
  obtain ⟨v,e,m⟩:=eK (x:=x) (i:=i+j) (aS 0x230c11311210c012 [_,_,_,_] rfl hn hj)
  rw [e];exact ⟨rfl,ox v m⟩
 refine lV an (f:=λj=>(x[i+j]?).getD key) hk okk hf hh (λj l hjl hl hb=> ?_) λk hkn h1 h2=>hQ k hkn (λj v hj hj2 hv=> ?_) λj v hj hj2 hv=> ?_
 ·haveI e1:=(hf j (aS 0x201211110012 [_,_,_] rfl hjl hl)).1
  haveI e2:=(hf l hl).1
  have hb':lt ((x[i+l]?).getD key) key=true:=hb
  show lt ((x[i+j]?).getD key) key=true
  rcases FG an.lin p (aS 0x12c02c010011 [_,_,_] rfl hjl) e1 e2 with h | h
  ·rw [show j=l from aaf (aS 0x21020c10c211 [_,_,_] rfl h) (aS 0x12020c10c311 [_,_,_] rfl h)];exact hb'
  ·cases e:lt ((x[i+j]?).getD key) key with
   | true=>rfl
   | false =>
    have:=an.lin.ntr h e
    rw [hb'] at this;cases this
 ·have:=h1 (j-i) (aS 0x231013c2121c0112 [_,_,_,_] rfl hj2 (aaa hj))
  haveI e:i+(j-i)=j:=aaf (aS 0x201c0210c211 [_,_,_] rfl (aaa hj)) (aS 0x12c0021c0011 [_,_,_] rfl (sA _ _))
  rw [e,hv] at this
  exact this
 ·have:=h2 (j-i) (aS 0x31003c201210c012 [_,_,_,_] rfl hj (sA _ _)) (aS 0x231013c2121c0112 [_,_,_,_] rfl hj2 (aaa (aS 0x200210c011 [_,_,_] rfl hj)))
  haveI e:i+(j-i)=j:=aaf (aS 0x201c0210c211 [_,_,_] rfl (aaa (aS 0x200210c011 [_,_,_] rfl hj))) (aS 0x12c0021c0011 [_,_,_] rfl (sA _ _))
  rw [e,hv] at this
  exact this
end
open PySem PyProof.Rows
theorem fL {σ α:Type} {c:Prop} [Decidable c] {m n:StateT σ Sem α} {Q:α->σ->Prop} {st:σ} (hc:c) (h:wpS M A E s m Q st):wpS M A E s (if c then m else n) Q st:=by rw [if_pos hc];exact h
theorem eG {σ α:Type} {c:Prop} [Decidable c] {m n:StateT σ Sem α} {Q:α->σ->Prop} {st:σ} (hc:¬c) (h:wpS M A E s n Q st):wpS M A E s (if c then m else n) Q st:=by rw [if_neg hc];exact h
abbrev LS:=Option (Array Keyed)×Array Keyed×Nat×Nat×Nat×Nat×Nat
noncomputable def Gp (a b out:Array Keyed) (ia ib mg ac bc:Nat):StateT SortSt Sem (ForInStep LS):=do
 let d <- elem' a ia
 if (ia+1+1==a.size)=true then pure (ForInStep.done (some (ux a b (out.push d) (ia+1) ib),out.push d,ia+1,ib,mg,ac,bc))
 else if (decide (ac<7)&&decide (bc<7))=true then pure (ForInStep.done (none,out.push d,ia+1,ib,mg,ac,bc))
 else pure (ForInStep.yield (none,out.push d,ia+1,ib,mg,ac,bc))
noncomputable def Go (a b out:Array Keyed) (ia ib mg ac bc:Nat):StateT SortSt Sem (ForInStep LS):=do
 let d <- elem' b ib
 if (ib+1==b.size)=true then pure (ForInStep.done (some (lx a b (out.push d) ia (ib+1)),out.push d,ia,ib+1,mg,ac,bc))
 else do
  let e <- elem' a ia
  let x <- ft true e b (ib+1) (b.size-(ib+1)) 0
  match x with
  | some k =>
   if k>0 then
    if (ib+1+k==b.size)=true then pure (ForInStep.done (some (lx a b (out.push d++b.extract (ib+1) (ib+1+k)) ia (ib+1+k)),out.push d++b.extract (ib+1) (ib+1+k),ia,ib+1+k,mg,ac,k))
    else Gp a b (out.push d++b.extract (ib+1) (ib+1+k)) ia (ib+1+k) mg ac k
   else Gp a b (out.push d) ia (ib+1) mg ac k
  | _=>pure (ForInStep.done (some (lx a b (out.push d) ia (ib+1)),out.push d,ia,ib+1,mg,ac,bc))
noncomputable def EV (a b out:Array Keyed) (ia ib mg ac bc:Nat):StateT SortSt Sem (ForInStep LS):=do
 fi mg
 let d <- elem' b ib
 let x <- ft false d a ia (a.size-ia) 0
 match x with
 | some k =>
  if k>0 then
   if (ia+k+1==a.size)=true then pure (ForInStep.done (some (ux a b (out++a.extract ia (ia+k)) (ia+k) ib),out++a.extract ia (ia+k),ia+k,ib,mg,k,bc))
   else if (ia+k==a.size)=true then pure (ForInStep.done (some (lx a b (out++a.extract ia (ia+k)) (ia+k) ib),out++a.extract ia (ia+k),ia+k,ib,mg,k,bc))
   else Go a b (out++a.extract ia (ia+k)) (ia+k) ib mg k bc
  else Go a b out ia ib mg k bc
 | _=>pure (ForInStep.done (some (lx a b out ia ib),out,ia,ib,mg,ac,bc))
abbrev BX (β:Type):=Option (Array Keyed)×Array Keyed×Nat×Nat×β
noncomputable def Jx (a b:Array Keyed) (mg:Nat) (out:Array Keyed) (ia ib ac bc:Nat):StateT SortSt Sem (ForInStep (BX (Nat×Nat))):=do
 let y <- elem' b ib
 let x <- elem' a ia
 let r <- lt' y x
 match r with
 | some w =>
  if w=true then do
   let d <- elem' b ib
   if (ib+1==b.size)=true then pure (.done (some (lx a b (out.push d) ia (ib+1)),out.push d,ia,ib+1,0,bc+1))
   else if bc+1>=mg then pure (.done (none,out.push d,ia,ib+1,0,bc+1)) else pure (.yield (none,out.push d,ia,ib+1,0,bc+1))
  else do
   let d <- elem' a ia
   if (ia+1+1==a.size)=true then pure (.done (some (ux a b (out.push d) (ia+1) ib),out.push d,ia+1,ib,ac+1,0))
   else if ac+1>=mg then pure (.done (none,out.push d,ia+1,ib,ac+1,0)) else pure (.yield (none,out.push d,ia+1,ib,ac+1,0))
 | _=>pure (.done (some (lx a b out ia ib),out,ia,ib,ac,bc))
noncomputable def Iy (a b:Array Keyed) (c:LS):StateT SortSt Sem (ForInStep LS) :=
 if c.2.2.2.2.1>1 then EV a b c.2.1 c.2.2.1 c.2.2.2.1 (c.2.2.2.2.1-1) c.2.2.2.2.2.1 c.2.2.2.2.2.2 else EV a b c.2.1 c.2.2.1 c.2.2.2.1 c.2.2.2.2.1 c.2.2.2.2.2.1 c.2.2.2.2.2.2
noncomputable def J5 (c:LS):StateT SortSt Sem (ForInStep (BX Nat)) :=
 match c.1 with
 | some r=>pure (.done (some r,c.2.1,c.2.2.1,c.2.2.2.1,c.2.2.2.2.1))
 | none=>do
  fi (c.2.2.2.2.1+1)
  pure (.yield (none,c.2.1,c.2.2.1,c.2.2.2.1,c.2.2.2.2.1+1))
noncomputable def J4 (a b:Array Keyed) (mg:Nat) (c:BX (Nat×Nat)):StateT SortSt Sem (ForInStep (BX Nat)) :=
 match c.1 with
 | some r=>pure (.done (some r,c.2.1,c.2.2.1,c.2.2.2.1,mg))
 | none=>do
  rule "list.sort.gallop"
  let c2 <- forIn [0:a.size+b.size] ((none,c.2.1,c.2.2.1,c.2.2.2.1,mg+1,c.2.2.2.2.1,c.2.2.2.2.2):LS) (λ_=>Iy a b)
  J5 c2
noncomputable def Ki (a b:Array Keyed) (c:BX Nat):StateT SortSt Sem (ForInStep (BX Nat)):=do
 let c1 <- forIn [0:a.size+b.size] ((none,c.2.1,c.2.2.1,c.2.2.2.1,0,0):BX (Nat×Nat)) (λ_ d=>Jx a b c.2.2.2.2 d.2.1 d.2.2.1 d.2.2.2.1 d.2.2.2.2.1 d.2.2.2.2.2)
 J4 a b c.2.2.2.2 c1
noncomputable def Kg (c:BX Nat):StateT SortSt Sem (Array Keyed) :=
 match c.1 with
 | some r=>pure r
 | none=>unsupported "internal:list.sort.merge-bound"
noncomputable def Kh (a b:Array Keyed) (d:Keyed):StateT SortSt Sem (Array Keyed) :=
 if (1==b.size)=true then pure (lx a b #[d] 0 1)
 else if (0+1==a.size)=true then pure (ux a b #[d] 0 1)
 else do
  let st <- get
  let c <- forIn [0:a.size+b.size] ((none,#[d],0,1,gallopOf st):BX Nat) (λ_=>Ki a b)
  Kg c
theorem Bv (a b:Array Keyed):uG a b=(do
 rule "list.sort.merge-lo"
 let d <- elem' b 0
 Kh a b d):=by kernel_rfl
section
variable {a b:Array Keyed}
variable (an:sV (model prog w) A E s lt ok κ) (p:MP lt ok a b) {st:SortSt} {K:ForInStep LS->SortSt->Prop} {B:Nat}
 (kR:∀r c st',js st st'->rV lt (a.toList++b.toList) (Array.toList r)->c.1=some r->K (.done c) st')
 (kN:∀out ia ib mg ac bc st',js st st'->Rn lt a b out ia ib->ia+1<a.size->ib<b.size->B<=ia+ib->K (.done (none,out,ia,ib,mg,ac,bc)) st'/\K (.yield (none,out,ia,ib,mg,ac,bc)) st')
include an p kR kN
theorem AJ {out:Array Keyed} {ia ib mg ac bc:Nat} {st':SortSt} (S:js st st') (h:Rn lt a b out ia ib) (ha:ia+1<a.size) (hb:ib<b.size) {va:Keyed} (ea:a[ia]? = some va) (hx:∀y∈b.toList.drop ib,Le lt va y) (hB:B<=ia+ib+1) :
  wpS (model prog w) A E s (Gp a b out ia ib mg ac bc) K st':=by
 unfold Gp
 refine wpS_bind (bF ea ?_)
 have h':=h.pushA ea hx
 by_cases e:ia+1+1=a.size
 ·rw [if_pos (beq_iff_eq.mpr e)]
  exact wpS_pure (kR _ _ _ S (h'.last p e) rfl)
 ·rw [if_neg (λh=>e (beq_iff_eq.mp h))]
  have:=kN (out.push va) (ia+1) ib mg ac bc st' S h' ((aat e).elim (λy2=>y2) (λy2=>cM 0x119190cc119190cc1111190c122 ha y2)) hb (aS 0x2191cc001921cc0011 [_,_,_] rfl hB)
  split
  ·exact wpS_pure this.1
  ·exact wpS_pure this.2
theorem AI {out:Array Keyed} {ia ib mg ac bc:Nat} {st':SortSt} (hk:kindOf st=κ) (S:js st st') (h:Rn lt a b out ia ib) (ha:ia+1<a.size) (hb:ib<b.size) {vb:Keyed} (eb:b[ib]? = some vb) (hx:∀y∈a.toList.drop ia,Le lt vb y) (hB:B<=ia+ib+2) :
  wpS (model prog w) A E s (Go a b out ia ib mg ac bc) K st':=by
 unfold Go
 refine wpS_bind (bF eb ?_)
 have h':=h.pushB eb hx
 by_cases e:ib+1=b.size
 ·rw [if_pos (beq_iff_eq.mpr e)]
  exact wpS_pure (kR _ _ _ S (h'.done (.inl (aS 0x190c101190c311 [_,_] rfl e))) rfl)
 ·rw [if_neg (λh=>e (beq_iff_eq.mp h))]
  obtain ⟨va,ea,ma⟩:=eK (x:=a) (i:=ia) (aS 0x1011190c111 [_,_] rfl ha)
  refine wpS_bind (bF ea (wpS_bind (FU an p.sb p.ob (p.oa _ ma) (S.k.trans hk) (by exact aS 0x20191cc02191c0c211 [_,_,_] rfl (aaa (aS 0x1190c010111 [_,_] rfl hb))) ((aat e).elim (λy2=>mK 0x2091190c2c1011190c112 y2 (sA _ _)) (λy2=>mK 0x2091190c11110112 hb y2)) λk hkn h1 h2=> ?_)))
  have many:∀x∈(b.toList.drop (ib+1)).take k,∀y∈a.toList.drop ia,Le lt x y:=λx hx y hy=>by
   obtain ⟨j,hj,ej⟩:=jq hx
   have hlt:Le lt x va:=an.lin.of_lt (h1 _ _ (aS 0x1190cc190c00 [_,_] rfl) (aS 0x1192cc0192cc110111 [_,_,_] rfl hj) ej)
   rw [jw ea] at hy
   rcases aal.mp hy with rfl | hy
   ·exact hlt
   ·exact an.lin.trans hlt (lD p.sa ea y hy)
  have rest:∀y∈b.toList.drop (ib+1+k),Le lt va y:=λy hy=>by
   obtain ⟨j,hj,ej⟩:=zt hy
   haveI:=lt_size ej
   exact h2 j y hj (aS 0x2193cc01193c2c10110112 [_,_,_,_] rfl this (sA _ _)) ej
  dsimp only
  by_cases hk0:k>0
  ·rw [if_pos hk0]
   have h'':=h'.manyB many
   by_cases e2:ib+1+k=b.size
   ·rw [if_pos (beq_iff_eq.mpr e2)]
    exact wpS_pure (kR _ _ _ S (h''.done (.inl (aS 0x1190cc2021190cc311 [_,_,_] rfl e2))) rfl)
   ·rw [if_neg (λh=>e2 (beq_iff_eq.mp h))]
    exact AJ an p kR kN S h'' ha ((aat e2).elim (λy2=>y2) (λy2=>vS 0x20193cc12193c1c220193cc21110023 hkn y2 (aaa (cM 0x1190c010111 hb)))) ea rest (by exact aS 0x193192cc1cc002921cc0011 [_,_,_,_] rfl hB)
  ·rw [if_neg hk0]
   obtain rfl:k=0:=aaf (aS 0x900009511 [_] rfl hk0) (aS 0x900 [_] rfl)
   exact AJ an p kR kN S h' ha ((aat e).elim (λy2=>y2) (λy2=>cM 0x1190c1190c11110122 hb y2)) ea rest (aS 0x19192c1cc002921cc0011 [_,_,_] rfl hB)
theorem F3 {out:Array Keyed} {ia ib mg ac bc:Nat} {st':SortSt} (hk:kindOf st=κ) (S:js st st') (h:Rn lt a b out ia ib) (ha:ia+1<a.size) (hb:ib<b.size) (hB:B<=ia+ib+2) :
  wpS (model prog w) A E s (EV a b out ia ib mg ac bc) K st':=by
 unfold EV
 rw [eV]
 refine wpS_bind (wpS_modify ?_)
 have S':=S.gal mg
 obtain ⟨vb,eb,mb⟩:=eK (x:=b) (i:=ib) hb
 refine wpS_bind (bF eb (wpS_bind (FT an p.sa p.oa (p.ob _ mb) (S'.k.trans hk) (by exact aS 0x201c0210c211 [_,_,_] rfl (aaa (aS 0x1001190c111 [_,_] rfl ha))) (Nat.sub_pos_of_lt (Nat.lt_of_succ_lt ha)) λk hkn h1 h2=> ?_)))
 have many:∀x∈(a.toList.drop ia).take k,∀y∈b.toList.drop ib,Le lt x y:=λx hx y hy=>by
  obtain ⟨j,hj,ej⟩:=jq hx
  have hle:Le lt x vb:=h1 _ _ (aS 0x10c000 [_,_] rfl) (aS 0x12c02c110111 [_,_,_] rfl hj) ej
  rw [jw eb] at hy
  rcases aal.mp hy with rfl | hy
  ·exact hle
  ·exact an.lin.trans hle (lD p.sb eb y hy)
 have rest:∀y∈a.toList.drop (ia+k),Le lt vb y:=λy hy=>by
  obtain ⟨j,hj,ej⟩:=zt hy
  haveI:=lt_size ej
  exact an.lin.of_lt (h2 j y hj (aS 0x23c0132c10110112 [_,_,_,_] rfl this (sA _ _)) ej)
 dsimp only
 by_cases hk0:k>0
 ·rw [if_pos hk0]
  have h'':=h.manyA many
  by_cases e1:ia+k+1=a.size
  ·rw [if_pos (beq_iff_eq.mpr e1)]
   exact wpS_pure (kR _ _ _ S' (h''.last p e1) rfl)
  ·rw [if_neg (λh=>e1 (beq_iff_eq.mp h))]
   by_cases e2:ia+k=a.size
   ·rw [if_pos (beq_iff_eq.mpr e2)]
    exact wpS_pure (kR _ _ _ S' (h''.done (.inr (aS 0x10c20210c311 [_,_,_] rfl e2))) rfl)
   ·rw [if_neg (λh=>e2 (beq_iff_eq.mp h))]
    exact AI an p kR kN hk S' h'' ((aat e1).elim (λy2=>y2) (λy2=>(aat e2).elim (λy1=>mK 0x1921cc1021c121921cc0112 y2 y1) (λy1=>vS 0x21903cc1231c2303c21210033 hkn y1 (aaa (cM 0x1001190c111 ha))))) hb eb rest (by exact aS 0x29231ccc002921cc0011 [_,_,_,_] rfl hB)
 ·rw [if_neg hk0]
  obtain rfl:k=0:=aaf (aS 0x900009511 [_] rfl hk0) (aS 0x900 [_] rfl)
  exact AI an p kR kN hk S' h ha hb eb rest (hB)
end
section
variable {a b:Array Keyed}
structure Lv (lt:Keyed->Keyed->Bool) (a b:Array Keyed) (N x:Nat) (out:Array Keyed) (ia ib:Nat):Prop where
 r:Rn lt a b out ia ib
 a1:ia+1<a.size
 b1:ib<b.size
 s:x+N<=ia+ib
def Il {β:Type} (lt:Keyed->Keyed->Bool) (a b:Array Keyed) (N x:Nat) (c:BX β):Prop:=c.1=none/\Lv lt a b N x c.2.1 c.2.2.1 c.2.2.2.1
def Dl {β:Type} (lt:Keyed->Keyed->Bool) (a b:Array Keyed) (c:BX β):Prop:= ∃r,c.1=some r/\rV lt (a.toList++b.toList) r.toList
theorem Lv.no {N ia ib:Nat} {out:Array Keyed} (h:Lv lt a b N (max 0 (a.size+b.size)) out ia ib):False:=by
 haveI s:=h.s
 rw [Nat.zero_max] at s
 exact absurd (aam (aaJ _ N) s) (Nat.not_le.mpr (Nat.add_lt_add (Nat.lt_of_succ_lt h.a1) h.b1))
section
variable (an:sV (model prog w) A E s lt ok κ) (p:MP lt ok a b) {st:SortSt} (hk:kindOf st=κ)
include an p hk
theorem FZ {st':SortSt} (S:js st st') {N x mg ia ib ac bc:Nat} {out:Array Keyed} (h:Lv lt a b N x out ia ib) {K:ForInStep (BX (Nat×Nat))->SortSt->Prop} (kD:∀c,Dl lt a b c\/Il lt a b N 1 c->K (.done c) st') (kY:∀c,Il lt a b N (x+1) c->K (.yield c) st') :
  wpS (model prog w) A E s (Jx a b mg out ia ib ac bc) K st':=by
 have h1:=h.a1
 have h2:=h.b1
 have hs:=h.s
 refine bP λY9 y9=> ?_
 obtain ⟨va,ea,ma⟩:=eK (x:=a) (i:=ia) (Nat.lt_of_succ_lt h1)
 obtain ⟨vb,eb,mb⟩:=eK (x:=b) (i:=ib) h2
 refine y9 ?_
 refine wpS_bind (bF eb (wpS_bind (bF ea (wpS_bind (an.ask (p.ob _ mb) (p.oa _ ma) (S.k.trans hk) ?_)))))
 cases hl:lt vb va with
 | true =>
  refine fL rfl (wpS_bind (bF eb ?_))
  have h':=h.r.pushB eb λy hy=>by
   have hlt:=an.lin.of_lt hl
   rw [jw ea] at hy
   rcases aal.mp hy with rfl | hy
   ·exact hlt
   ·exact an.lin.trans hlt (lD p.sa ea y hy)
  by_cases e:ib+1=b.size
  ·exact fL (beq_iff_eq.mpr e) (wpS_pure (kD _ (.inl ⟨_,rfl,h'.done (.inl (Nat.le_of_eq e.symm))⟩)))
  ·have v:∀ {x'},x'+N<=ia+(ib+1)->Lv lt a b N x' (out.push vb) ia (ib+1):=λg=>⟨h',h1,(aat e).elim (λy2=>y2) (λy2=>cM 0x1190c1190c11110122 h2 y2),g⟩
   refine eG (λh=>e (beq_iff_eq.mp h)) ?_
   by_cases q:bc+1>=mg
   ·exact fL q (wpS_pure (kD _ (.inr ⟨rfl,v (aS 0x193c2c119c032c10c011 [_,_,_,_] rfl hs)⟩)))
   ·exact eG q (wpS_pure (kY _ ⟨rfl,v (aS 0x193c2c1190cc032c10c011 [_,_,_,_] rfl hs)⟩))
 | false =>
  refine eG aaW (wpS_bind (bF ea ?_))
  have h':=h.r.pushA ea λy hy=>by
   rw [jw eb] at hy
   rcases aal.mp hy with rfl | hy
   ·exact hl
   ·exact an.lin.trans hl (lD p.sb eb y hy)
  by_cases e:ia+1+1=a.size
  ·exact fL (beq_iff_eq.mpr e) (wpS_pure (kD _ (.inl ⟨_,rfl,h'.last p e⟩)))
  ·have v:∀ {x'},x'+N<=ia+1+ib->Lv lt a b N x' (out.push va) (ia+1) ib:=λg=>⟨h',(aat e).elim (λy2=>y2) (λy2=>cM 0x119190cc119190cc1111190c122 h1 y2),h2,g⟩
   refine eG (λh=>e (beq_iff_eq.mp h)) ?_
   by_cases q:ac+1>=mg
   ·exact fL q (wpS_pure (kD _ (.inr ⟨rfl,v (aS 0x3192cc119c032c10c011 [_,_,_,_] rfl hs)⟩)))
   ·exact eG q (wpS_pure (kY _ ⟨rfl,v (aS 0x3192cc1190cc032c10c011 [_,_,_,_] rfl hs)⟩))
theorem F2 {st':SortSt} (S:js st st') {N x:Nat} {c:LS} (h:Lv lt a b N x c.2.1 c.2.2.1 c.2.2.2.1) {K:ForInStep LS->SortSt->Prop} (kD:∀c st2,js st st2->Dl lt a b c\/Il lt a b N 0 c->K (.done c) st2) (kY:∀c st2,js st st2->Il lt a b N (x+1) c->K (.yield c) st2) :
  wpS (model prog w) A E s (Iy a b c) K st':=by
 have key:∀(mg ac bc:Nat),wpS (model prog w) A E s (EV a b c.2.1 c.2.2.1 c.2.2.2.1 mg ac bc) K st':=λmg ac bc=>by
  have hs:=h.s
  exact F3 an p (B:=c.2.2.1+c.2.2.2.1+2) (λr c st2 S' hr hc=>kD c st2 S' (.inl ⟨r,hc,hr⟩)) (λo i j mm u v st2 S' r1 r2 r3 r4=>⟨kD _ _ S' (.inr ⟨rfl,⟨r1,r2,r3,by dsimp only;exact aS 0x54c109c054c2932cc0132c10c012 [_,_,_,_,_,_] rfl hs r4⟩⟩),kY _ _ S' ⟨rfl,⟨r1,r2,r3,by dsimp only;exact aS 0x54c1190cc054c2932cc0132c10c012 [_,_,_,_,_,_] rfl hs r4⟩⟩⟩) hk S h.r h.a1 h.b1 (aaD _)
 unfold Iy
 by_cases hm:c.2.2.2.2.1>1
 ·exact fL hm (key _ _ _)
 ·exact eG hm (key _ _ _)
theorem G9 {st':SortSt} (S:js st st') {x:Nat} {c:BX Nat} (h:Lv lt a b 0 x c.2.1 c.2.2.1 c.2.2.2.1) {K:ForInStep (BX Nat)->SortSt->Prop} (kD:∀c st2,js st st2->Dl lt a b c->K (.done c) st2) (kY:∀c st2,js st st2->Il lt a b 0 (x+1) c->K (.yield c) st2) :
  wpS (model prog w) A E s (Ki a b c) K st':=by
 haveI hs:=h.s
 refine wpS_bind (wpS_mono (wpS_forRange (I:=λx c1 st2=>st2=st'/\Il lt a b (c.2.2.1+c.2.2.2.1) x c1) (Q:=λc1 st2=>st2=st'/\(Dl lt a b c1\/Il lt a b (c.2.2.1+c.2.2.2.1) 1 c1)) ?_ (λ_ _ g=>g.2.2.no.elim) ⟨rfl,rfl,⟨h.r,h.a1,h.b1,Nat.le_of_eq (aa2 _)⟩⟩) λc1 st2 g=> ?_)
 ·rintro y d _ _ _ ⟨rfl,g⟩
  exact FZ an p hk S g.2 (λ_ q=>⟨rfl,q⟩) λ_ q=>⟨rfl,q⟩
 rw [g.1]
 rcases g.2 with ⟨r,e,hr⟩ | ⟨e,v⟩
 ·unfold J4;rw [e];exact wpS_pure (kD _ _ S ⟨r,rfl,hr⟩)
 unfold J4;rw [e]
 haveI hs2:=v.s
 refine wpS_bind (wpS_lift (wpAny_rule ⟨rfl,?_⟩))
 refine wpS_bind (wpS_mono (wpS_forRange (I:=λx d st3=>js st st3/\Il lt a b (c1.2.2.1+c1.2.2.2.1) x d) (Q:=λd st3=>js st st3/\(Dl lt a b d\/Il lt a b (c1.2.2.1+c1.2.2.2.1) 0 d)) ?_ (λ_ _ g=>g.2.2.no.elim) ⟨S,rfl,⟨v.r,v.a1,v.b1,Nat.le_of_eq (aa2 _)⟩⟩) λd st3 g=> ?_)
 ·exact λy d st3 _ _ g=>F2 an p hk g.1 g.2.2 (λ_ _ S q=>⟨S,q⟩) λ_ _ S q=>⟨S,q⟩
 rcases g.2 with ⟨r,e,hr⟩ | ⟨e,u⟩
 ·unfold J5;rw [e];exact wpS_pure (kD _ _ g.1 ⟨r,rfl,hr⟩)
 ·haveI hs3:=u.s
  unfold J5;rw [e,eV]
  exact wpS_bind (wpS_modify (wpS_pure (kY _ _ (g.1.gal _) ⟨rfl,⟨u.r,u.a1,u.b1,by dsimp only;exact aS 0x65c09190cc065c43c09c0143c21c19c0121c090c013 [_,_,_,_,_,_,_] rfl hs hs2 hs3⟩⟩)))
end
theorem AM (an:sV (model prog w) A E s lt ok κ) (p:MP lt ok a b) {st:SortSt} (hk:kindOf st=κ) (h0:∀x y,b[0]? = some x->a[0]? = some y->lt x y=true) (ha:1<=a.size) (hb:1<=b.size) {Q:Array Keyed->SortSt->Prop}
  (hQ:∀r st',js st st'->rV lt (a.toList++b.toList) r.toList->Q r st'):wpS (model prog w) A E s (uG a b) Q st:=by
 obtain ⟨vb,eb,mb⟩:=eK (x:=b) (i:=0) hb
 obtain ⟨va,ea,ma⟩:=eK (x:=a) (i:=0) ha
 have R0:Rn lt a b #[vb] 0 1:=by
  haveI R00:Rn lt a b #[] 0 0:=⟨.nil,p.sa,p.sb,λ_ h=>(nomatch h),λ_ h=>(nomatch h),.refl _⟩
  refine R00.pushB eb λy hy=> ?_
  have hlt:=an.lin.of_lt (h0 vb va eb ea)
  rw [jw ea] at hy
  rcases aal.mp hy with rfl | hy
  ·exact hlt
  ·exact an.lin.trans hlt (lD p.sa ea y hy)
 rw [Bv]
 refine wpS_bind (wpS_lift (wpAny_rule ⟨rfl,wpS_bind (bF eb ?_)⟩))
 unfold Kh
 by_cases e1:1=b.size
 ·exact fL (beq_iff_eq.mpr e1) (wpS_pure (hQ _ _ (js.refl _) (R0.done (.inl (Nat.le_of_eq e1.symm)))))
 refine eG (λh=>e1 (beq_iff_eq.mp h)) ?_
 by_cases e2:0+1=a.size
 ·exact fL (beq_iff_eq.mpr e2) (wpS_pure (hQ _ _ (js.refl _) (R0.last p e2)))
 refine eG (λh=>e2 (beq_iff_eq.mp h)) (wpS_bind (wpS_get (wpS_bind (wpS_mono (wpS_forRange (I:=λx c st'=>js st st'/\Il lt a b 0 x c) (Q:=λc st'=>js st st'/\Dl lt a b c) ?_ (λ_ _ g=>g.2.2.no.elim) ⟨js.refl _,rfl,⟨R0,by dsimp only;exact (aat e2).elim (λy2=>y2) (λy2=>cU 0x1909c11909c011019022 ha y2),by dsimp only;exact (aat e1).elim (λy2=>y2) (λy2=>cU 0x19119011019022 hb y2),Nat.zero_le _⟩⟩) λc st' g=> ?_))))
 ·exact λx c st' _ _ g=>G9 an p hk g.1 g.2.2 (λ_ _ S q=>⟨S,q⟩) λ_ _ S q=>⟨S,q⟩
 ·obtain ⟨S,r,e,hr⟩:=g
  unfold Kg;rw [e];exact wpS_pure (hQ r _ S hr)
end
open PySem PyProof.Rows
noncomputable def uF:Array Keyed->Array Keyed->StateT SortSt Sem (Array Keyed):=sortPriv% PySem.Builtin.mergeHi
abbrev lw (a b out:Array Keyed) (na nb:Nat):=a.extract 0 na++b.extract 0 nb++out.reverse
abbrev qg (a b out:Array Keyed) (na nb:Nat):=b.extract 0 nb++a.extract 0 na++out.reverse
section
structure JH (lt:Keyed->Keyed->Bool) (ok:Keyed->Prop) (a b:Array Keyed):Prop where
 sa:a.toList.Pairwise (Le lt)
 sb:b.toList.Pairwise (Le lt)
 oa:∀x∈a.toList,ok x
 ob:∀x∈b.toList,ok x
 first:∀x∈b.toList.take 1,∀y∈a.toList,Le lt x y
def Rh (lt:Keyed->Keyed->Bool) (a b out:Array Keyed) (na nb:Nat):Prop:=ML (λx y=>lt y x) (a.toList++b.toList) out.toList (a.toList.take na).reverse (b.toList.take nb).reverse
variable {a b out:Array Keyed} {na nb k:Nat}
theorem Gg (a:Array Keyed) (n:Nat):(a.extract 0 n).toList=a.toList.take n:=by rw [ec,List.drop_zero,Nat.sub_zero]
theorem Cu {w c:List Keyed} (h:rV (λx y=>lt y x) w c):rV lt w c.reverse:=⟨List.pairwise_reverse.mpr h.1,(List.reverse_perm c).trans h.2⟩
theorem Rh.done (h:Rh lt a b out na nb) (hb:nb=0\/na=0):rV lt (a.toList++b.toList) (lw a b out na nb).toList:=by
 haveI:=Cu (ML.endR h λx hx y hy=>by
  rcases hb with rfl | rfl
  ·cases hx
  ·cases hy)
 rw [List.reverse_append,List.reverse_append,List.reverse_reverse,List.reverse_reverse,<- aae] at this
 rw [aaY,aaY,Gg,Gg,Array.toList_reverse];exact this
theorem Rh.first (p:JH lt ok a b) (h:Rh lt a b out na nb) (hb:nb=1):rV lt (a.toList++b.toList) (qg a b out na nb).toList:=by
 subst hb
 haveI:=Cu (ML.endL h λx hx y hy=>p.first y (aax.mp hy) x (List.mem_of_mem_take (aax.mp hx)))
 rw [List.reverse_append,List.reverse_append,List.reverse_reverse,List.reverse_reverse,<- aae] at this
 rw [aaY,aaY,Gg,Gg,Array.toList_reverse];exact this
theorem oz {x:Array Keyed} {i:Nat} {v:Keyed} (h:x[i]? = some v):(x.toList.take (i+1)).reverse=v::(x.toList.take i).reverse:=by
 rw [<- aaz] at h
 rw [List.take_add_one,h,List.reverse_append];rfl
theorem Rh.pushB {x:Keyed} (h:Rh lt a b out na (nb+1)) (hx:b[nb]? = some x) (hl:∀y∈a.toList.take na,Le lt y x):Rh lt a b (out.push x) na nb:=by
 unfold Rh at h ⊢
 rw [oz hx] at h
 rw [Array.toList_push]
 exact ML.right (v1:=[x]) h λy hy z hz=>by rw [aaj.mp hy];exact hl z (aax.mp hz)
theorem Rh.pushA {x:Keyed} (h:Rh lt a b out (na+1) nb) (hx:a[na]? = some x) (hl:∀y∈b.toList.take nb,Le lt y x):Rh lt a b (out.push x) na nb:=by
 unfold Rh at h ⊢
 rw [oz hx] at h
 rw [Array.toList_push]
 exact ML.left (u1:=[x]) h λy hy z hz=>by rw [aaj.mp hy];exact hl z (aax.mp hz)
theorem vF {x:List Keyed} {k n:Nat} (h:k<=n):(x.take n).reverse=((x.drop k).take (n-k)).reverse++(x.take k).reverse:=by
 rw [<- List.reverse_append]
 congr 1
 rw [<- List.take_add,Nat.add_sub_cancel' h]
theorem Rh.manyA (h:Rh lt a b out na nb) (hk:k<=na) (hl:∀x∈(a.toList.drop k).take (na-k),∀y∈b.toList.take nb,Le lt y x):Rh lt a b (out++(a.extract k na).reverse) k nb:=by
 unfold Rh at h ⊢
 rw [aaY,Array.toList_reverse,ec]
 rw [vF hk] at h
 exact ML.left h λx hx y hy=>hl x (aax.mp hx) y (aax.mp hy)
theorem Rh.manyB (h:Rh lt a b out na nb) (hk:k<=nb) (hl:∀x∈(b.toList.drop k).take (nb-k),∀y∈a.toList.take na,Le lt y x):Rh lt a b (out++(b.extract k nb).reverse) na k:=by
 unfold Rh at h ⊢
 rw [aaY,Array.toList_reverse,ec]
 rw [vF hk] at h
 exact ML.right h λx hx y hy=>hl x (aax.mp hx) y (aax.mp hy)
theorem tR (h:HJ lt) {x:Array Keyed} (p:x.toList.Pairwise (Le lt)) {i:Nat} {v:Keyed} (hv:x[i]? = some v):∀y∈x.toList.take i,Le lt y v:=λy hy=>by
 obtain ⟨j,hj,e⟩:=jq (x:=x) (i:=0) (k:=i) (by simpa using hy)
 rw [aa2] at e
 exact lD p e v (sG hv hj)
end
open PySem PyProof.Rows
abbrev HS:=Option (Array Keyed)×Nat×Nat×Array Keyed×Nat×Nat×Nat
noncomputable def Gk (a b out:Array Keyed) (na nb mg ac bc:Nat):StateT SortSt Sem (ForInStep HS):=do
 let d <- elem' a (na-1)
 if (na-1==0)=true then pure (ForInStep.done (some (lw a b (out.push d) (na-1) nb),na-1,nb,out.push d,mg,ac,bc))
 else if (decide (ac<7)&&decide (bc<7))=true then pure (ForInStep.done (none,na-1,nb,out.push d,mg,ac,bc))
 else pure (ForInStep.yield (none,na-1,nb,out.push d,mg,ac,bc))
noncomputable def Gj (a b out:Array Keyed) (na nb mg ac bc:Nat):StateT SortSt Sem (ForInStep HS):=do
 let d <- elem' b (nb-1)
 if (nb-1==1)=true then pure (ForInStep.done (some (qg a b (out.push d) na (nb-1)),na,nb-1,out.push d,mg,ac,bc))
 else do
  let e <- elem' a (na-1)
  let x <- ft true e b 0 (nb-1) (nb-1-1)
  match x with
  | some t =>
   if nb-1-t>0 then
    if (t==1)=true then pure (ForInStep.done (some (qg a b (out.push d++(b.extract t (nb-1)).reverse) na t),na,t,out.push d++(b.extract t (nb-1)).reverse,mg,ac,nb-1-t))
    else if (t==0)=true then pure (ForInStep.done (some (lw a b (out.push d++(b.extract t (nb-1)).reverse) na t),na,t,out.push d++(b.extract t (nb-1)).reverse,mg,ac,nb-1-t))
    else Gk a b (out.push d++(b.extract t (nb-1)).reverse) na t mg ac (nb-1-t)
   else Gk a b (out.push d) na (nb-1) mg ac (nb-1-t)
  | _=>pure (ForInStep.done (some (lw a b (out.push d) na (nb-1)),na,nb-1,out.push d,mg,ac,bc))
noncomputable def EH (a b out:Array Keyed) (na nb mg ac bc:Nat):StateT SortSt Sem (ForInStep HS):=do
 fi mg
 let d <- elem' b (nb-1)
 let x <- ft false d a 0 na (na-1)
 match x with
 | some t =>
  if na-t>0 then
   if (t==0)=true then pure (ForInStep.done (some (lw a b (out++(a.extract t na).reverse) t nb),t,nb,out++(a.extract t na).reverse,mg,na-t,bc))
   else Gj a b (out++(a.extract t na).reverse) t nb mg (na-t) bc
  else Gj a b out na nb mg (na-t) bc
 | _=>pure (ForInStep.done (some (lw a b out na nb),na,nb,out,mg,ac,bc))
abbrev BY (β:Type):=Option (Array Keyed)×Nat×Nat×Array Keyed×β
noncomputable def Jr (a b:Array Keyed) (mg:Nat) (out:Array Keyed) (na nb ac bc:Nat):StateT SortSt Sem (ForInStep (BY (Nat×Nat))):=do
 let y <- elem' b (nb-1)
 let x <- elem' a (na-1)
 let r <- lt' y x
 match r with
 | some w =>
  if w=true then do
   let d <- elem' a (na-1)
   if (na-1==0)=true then pure (.done (some (lw a b (out.push d) (na-1) nb),na-1,nb,out.push d,ac+1,0))
   else if ac+1>=mg then pure (.done (none,na-1,nb,out.push d,ac+1,0)) else pure (.yield (none,na-1,nb,out.push d,ac+1,0))
  else do
   let d <- elem' b (nb-1)
   if (nb-1==1)=true then pure (.done (some (qg a b (out.push d) na (nb-1)),na,nb-1,out.push d,0,bc+1))
   else if bc+1>=mg then pure (.done (none,na,nb-1,out.push d,0,bc+1)) else pure (.yield (none,na,nb-1,out.push d,0,bc+1))
 | _=>pure (.done (some (lw a b out na nb),na,nb,out,ac,bc))
noncomputable def Io (a b:Array Keyed) (c:HS):StateT SortSt Sem (ForInStep HS) :=
 if c.2.2.2.2.1>1 then EH a b c.2.2.2.1 c.2.1 c.2.2.1 (c.2.2.2.2.1-1) c.2.2.2.2.2.1 c.2.2.2.2.2.2 else EH a b c.2.2.2.1 c.2.1 c.2.2.1 c.2.2.2.2.1 c.2.2.2.2.2.1 c.2.2.2.2.2.2
noncomputable def J2 (c:HS):StateT SortSt Sem (ForInStep (BY Nat)) :=
 match c.1 with
 | some r=>pure (.done (some r,c.2.1,c.2.2.1,c.2.2.2.1,c.2.2.2.2.1))
 | none=>do
  fi (c.2.2.2.2.1+1)
  pure (.yield (none,c.2.1,c.2.2.1,c.2.2.2.1,c.2.2.2.2.1+1))
noncomputable def J1 (a b:Array Keyed) (mg:Nat) (c:BY (Nat×Nat)):StateT SortSt Sem (ForInStep (BY Nat)) :=
 match c.1 with
 | some r=>pure (.done (some r,c.2.1,c.2.2.1,c.2.2.2.1,mg))
 | none=>do
  rule "list.sort.gallop"
  let c2 <- forIn [0:a.size+b.size] ((none,c.2.1,c.2.2.1,c.2.2.2.1,mg+1,c.2.2.2.2.1,c.2.2.2.2.2):HS) (λ_=>Io a b)
  J2 c2
noncomputable def Ke (a b:Array Keyed) (c:BY Nat):StateT SortSt Sem (ForInStep (BY Nat)):=do
 let c1 <- forIn [0:a.size+b.size] ((none,c.2.1,c.2.2.1,c.2.2.2.1,0,0):BY (Nat×Nat)) (λ_ d=>Jr a b c.2.2.2.2 d.2.2.2.1 d.2.1 d.2.2.1 d.2.2.2.2.1 d.2.2.2.2.2)
 J1 a b c.2.2.2.2 c1
noncomputable def Kc (c:BY Nat):StateT SortSt Sem (Array Keyed) :=
 match c.1 with
 | some r=>pure r
 | none=>unsupported "internal:list.sort.merge-bound"
noncomputable def Kd (a b:Array Keyed) (d:Keyed):StateT SortSt Sem (Array Keyed) :=
 if (a.size-1==0)=true then pure (lw a b #[d] (a.size-1) b.size)
 else if (b.size==1)=true then pure (qg a b #[d] (a.size-1) b.size)
 else do
  let st <- get
  let c <- forIn [0:a.size+b.size] ((none,a.size-1,b.size,#[d],gallopOf st):BY Nat) (λ_=>Ke a b)
  Kc c
theorem Bu (a b:Array Keyed):uF a b=(do
 rule "list.sort.merge-hi"
 let d <- elem' a (a.size-1)
 Kd a b d):=by kernel_rfl
section
variable {a b:Array Keyed}
variable (an:sV (model prog w) A E s lt ok κ) (p:JH lt ok a b) {st:SortSt} {K:ForInStep HS->SortSt->Prop} {B:Nat}
 (kR:∀r c st',js st st'->rV lt (a.toList++b.toList) (Array.toList r)->c.1=some r->K (.done c) st')
 (kN:∀out na nb mg ac bc st',js st st'->Rh lt a b out na nb->1<=na->na<=a.size->2<=nb->nb<=b.size->na+nb<=B->K (.done (none,na,nb,out,mg,ac,bc)) st'/\K (.yield (none,na,nb,out,mg,ac,bc)) st')
include an p kR kN
theorem AH {out:Array Keyed} {na nb mg ac bc:Nat} {st':SortSt} (S:js st st') (h:Rh lt a b out (na+1) nb) (ha:na+1<=a.size) (hb2:2<=nb) (hb:nb<=b.size) {va:Keyed} (ea:a[na]? = some va) (hx:∀y∈b.toList.take nb,Le lt y va) (hB:na+nb<=B) :
  wpS (model prog w) A E s (Gk a b out (na+1) nb mg ac bc) K st':=by
 unfold Gk
 rw [Nat.add_sub_cancel]
 refine wpS_bind (bF ea ?_)
 have h':=h.pushA ea hx
 by_cases e:na=0
 ·rw [if_pos (beq_iff_eq.mpr e)]
  exact wpS_pure (kR _ _ _ S (h'.done (.inr e)) rfl)
 ·rw [if_neg (λh=>e (beq_iff_eq.mp h))]
  have:=kN (out.push va) na nb mg ac bc st' S h' ((aat e).elim (λy2=>cU 0x190090111 y2) (λy2=>cU 0x190009111 y2)) (aS 0x1001190c011 [_,_] rfl ha) hb2 hb hB
  split
  ·exact wpS_pure this.1
  ·exact wpS_pure this.2
theorem AG {out:Array Keyed} {na m mg ac bc:Nat} {st':SortSt} (hk:kindOf st=κ) (S:js st st') (h:Rh lt a b out (na+1) (m+1)) (ha:na+1<=a.size) (hm:1<=m) (hb:m+1<=b.size) {vb:Keyed} (eb:b[m]? = some vb) (hx:∀y∈a.toList.take (na+1),Le lt y vb) (hB:na+m<=B) :
  wpS (model prog w) A E s (Gj a b out (na+1) (m+1) mg ac bc) K st':=by
 unfold Gj
 rw [Nat.add_sub_cancel]
 refine wpS_bind (bF eb ?_)
 have h':=h.pushB eb hx
 by_cases e:m=1
 ·rw [if_pos (beq_iff_eq.mpr e)]
  exact wpS_pure (kR _ _ _ S (h'.first p e) rfl)
 ·rw [if_neg (λh=>e (beq_iff_eq.mp h)),Nat.add_sub_cancel]
  obtain ⟨va,ea,ma⟩:=eK (x:=a) (i:=na) (by exact aS 0x1011190c011 [_,_] rfl ha)
  refine wpS_bind (bF ea (wpS_bind (FU an p.sb p.ob (p.oa _ ma) (S.k.trans hk) (by exact aS 0x1009c01190c011 [_,_] rfl hb) (by exact aS 0x1011190c211 [_,_] rfl (aaa hm)) λt htn h1 h2=> ?_)))
  rw [aa2] at h1 h2
  have many:∀x∈(b.toList.drop t).take (m-t),∀y∈a.toList.take (na+1),Le lt y x:=λx hx y hy=>by
   obtain ⟨j,hj,ej⟩:=jq hx
   have hle:Le lt va x:=h2 _ _ (by exact aS 0x10c000 [_,_] rfl) (by exact aS 0x309c02c1321c2110112 [_,_,_,_] rfl hj (aaa htn)) ej
   rw [<- aax,oz ea] at hy
   rcases aal.mp hy with rfl | hy
   ·exact hle
   ·exact an.lin.trans (tR an.lin p.sa ea y (aax.mp hy)) hle
  have rest:∀y∈b.toList.take t,Le lt y va:=λy hy=>by
   obtain ⟨j,hj,ej⟩:=jq (x:=b) (i:=0) (k:=t) (by simpa using hy)
   rw [aa2] at ej
   exact an.lin.of_lt (h1 j y (Nat.zero_le _) hj ej)
  dsimp only
  by_cases hk0:m-t>0
  ·rw [if_pos hk0]
   have h'':=h'.manyB htn many
   by_cases e2:t=1
   ·rw [if_pos (beq_iff_eq.mpr e2)]
    exact wpS_pure (kR _ _ _ S (h''.first p e2) rfl)
   ·rw [if_neg (λh=>e2 (beq_iff_eq.mp h))]
    by_cases e3:t=0
    ·rw [if_pos (beq_iff_eq.mpr e3)]
     exact wpS_pure (kR _ _ _ S (h''.done (.inl e3)) rfl)
    ·rw [if_neg (λh=>e3 (beq_iff_eq.mp h))]
     exact AH an p kR kN S h'' ha ((aat e2).elim (λy2=>(aat e3).elim (λy1=>cU 0x290090121 y1) (λy1=>cU 0x29000912190112 y2 y1)) (λy2=>cU 0x290019111 y2)) (by exact aS 0x12002011190c012 [_,_,_] rfl hb htn) ea rest (by exact aS 0x230c01301210c012 [_,_,_,_] rfl hB htn)
  ·rw [if_neg hk0]
   obtain rfl:t=m:=by exact aaf (htn) (aS 0x21020c101009512 [_,_,_] rfl hk0 (sA _ _))
   exact AH an p kR kN S h' ha ((aat e).elim (λy2=>cU 0x29019011019022 hm y2) (λy2=>cU 0x290019111 y2)) (by exact aS 0x1001190c011 [_,_] rfl hb) ea rest (by exact hB)
theorem FY {out:Array Keyed} {na m mg ac bc:Nat} {st':SortSt} (hk:kindOf st=κ) (S:js st st') (h:Rh lt a b out na (m+1)) (ha1:1<=na) (ha:na<=a.size) (hm:1<=m) (hb:m+1<=b.size) (hB:na+m<=B+1) :
  wpS (model prog w) A E s (EH a b out na (m+1) mg ac bc) K st':=by
 unfold EH
 rw [eV,Nat.add_sub_cancel]
 refine wpS_bind (wpS_modify ?_)
 have S':=S.gal mg
 obtain ⟨vb,eb,mb⟩:=eK (x:=b) (i:=m) (by exact aS 0x1011190c011 [_,_] rfl hb)
 refine wpS_bind (bF eb (wpS_bind (FT an p.sa p.oa (p.ob _ mb) (S'.k.trans hk) (by exact aS 0x1009c010011 [_,_] rfl ha) (by exact aS 0x1011190c211 [_,_] rfl (aaa ha1)) λt htn h1 h2=> ?_)))
 rw [aa2] at h1 h2
 have many:∀x∈(a.toList.drop t).take (na-t),∀y∈b.toList.take (m+1),Le lt y x:=λx hx y hy=>by
  obtain ⟨j,hj,ej⟩:=jq hx
  have hlt:Le lt vb x:=an.lin.of_lt (h2 _ _ (by exact aS 0x10c000 [_,_] rfl) (by exact aS 0x309c02c1321c2110112 [_,_,_,_] rfl hj (aaa htn)) ej)
  rw [<- aax,oz eb] at hy
  rcases aal.mp hy with rfl | hy
  ·exact hlt
  ·exact an.lin.trans (tR an.lin p.sb eb y (aax.mp hy)) hlt
 have rest:∀y∈a.toList.take t,Le lt y vb:=λy hy=>by
  obtain ⟨j,hj,ej⟩:=jq (x:=a) (i:=0) (k:=t) (by simpa using hy)
  rw [aa2] at ej
  exact h1 j y (Nat.zero_le _) hj ej
 dsimp only
 by_cases hk0:na-t>0
 ·rw [if_pos hk0]
  have h'':=h.manyA htn many
  by_cases e1:t=0
  ·rw [if_pos (beq_iff_eq.mpr e1)]
   exact wpS_pure (kR _ _ _ S' (h''.done (.inr e1)) rfl)
  ·rw [if_neg (λh=>e1 (beq_iff_eq.mp h))]
   obtain ⟨t',rfl⟩:∃t',t=t'+1:=⟨t-1,aaf ((sA _ _)) ((aat e1).elim (λy2=>cM 0x191c00101090112 y2 (Nat.sub_le _ _)) (λy2=>cM 0x1190c01190c211 (aaa (cU 0x190009111 y2))))⟩
   exact AG an p kR kN hk S' h'' (by exact aS 0x1192c00192c0110012 [_,_,_] rfl ha htn) hm hb eb rest (by exact aS 0x213c00193c01192c10c012 [_,_,_,_] rfl hB htn)
 ·rw [if_neg hk0]
  obtain rfl:t=na:=by exact aaf (htn) (aS 0x21020c101009512 [_,_,_] rfl hk0 (sA _ _))
  obtain ⟨t',rfl⟩:∃t',t=t'+1:=⟨t-1,by exact aaf ((sA _ _)) (aS 0x1190c01190c211 [_,_] rfl (aaa ha1))⟩
  exact AG an p kR kN hk S' h (by exact ha) hm hb eb rest (by exact aS 0x210c0192c1190cc011 [_,_,_] rfl hB)
end
section
variable {a b:Array Keyed}
structure Hv (lt:Keyed->Keyed->Bool) (a b:Array Keyed) (N x:Nat) (out:Array Keyed) (na nb:Nat):Prop where
 r:Rh lt a b out na nb
 a1:1<=na
 a2:na<=a.size
 b1:2<=nb
 b2:nb<=b.size
 s:x+(na+nb)<=N
def Iv {β:Type} (lt:Keyed->Keyed->Bool) (a b:Array Keyed) (N x:Nat) (c:BY β):Prop:=c.1=none/\Hv lt a b N x c.2.2.2.1 c.2.1 c.2.2.1
def Dn {β:Type} (lt:Keyed->Keyed->Bool) (a b:Array Keyed) (c:BY β):Prop:= ∃r,c.1=some r/\rV lt (a.toList++b.toList) r.toList
theorem Hv.no {N M na nb:Nat} {out:Array Keyed} (h:Hv lt a b N (max 0 M) out na nb) (hN:N<=M):False:=by
 haveI s:=h.s
 rw [Nat.zero_max] at s
 exact absurd (aam s hN) (Nat.not_le.mpr (Nat.lt_add_of_pos_right (aa4 h.a1 (aaJ _ _))))
section
variable (an:sV (model prog w) A E s lt ok κ) (p:JH lt ok a b) {st:SortSt} (hk:kindOf st=κ)
include an p hk
theorem FV {st':SortSt} (S:js st st') {N x mg na nb ac bc:Nat} {out:Array Keyed} (h:Hv lt a b N x out na nb) {K:ForInStep (BY (Nat×Nat))->SortSt->Prop} (kD:∀c,Dn lt a b c\/Iv lt a b N 1 c->K (.done c) st') (kY:∀c,Iv lt a b N (x+1) c->K (.yield c) st') :
  wpS (model prog w) A E s (Jr a b mg out na nb ac bc) K st':=by
 cases na with
 | zero=>exact absurd h.a1 ∅
 | succ na =>
 cases nb with
 | zero=>exact absurd h.b1 ∅
 | succ nb =>
 refine bP λY9 y9=> ?_
 obtain ⟨va,ea,ma⟩:=eK (x:=a) (i:=na) h.a2
 obtain ⟨vb,eb,mb⟩:=eK (x:=b) (i:=nb) h.b2
 refine y9 ?_
 have hs:=h.s
 refine wpS_bind (bF eb (wpS_bind (bF ea (wpS_bind (an.ask (p.ob _ mb) (p.oa _ ma) (S.k.trans hk) ?_)))))
 cases hl:lt vb va with
 | true =>
  refine fL rfl (wpS_bind (bF ea ?_))
  have h':=h.r.pushA ea λy hy=>by
   have hle:Le lt vb va:=an.lin.of_lt hl
   rw [<- aax,oz eb] at hy
   rcases aal.mp hy with rfl | hy
   ·exact hle
   ·exact an.lin.trans (tR an.lin p.sb eb y (aax.mp hy)) hle
  by_cases e:na=0
  ·exact fL (beq_iff_eq.mpr e) (wpS_pure (kD _ (.inl ⟨_,rfl,h'.done (.inr e)⟩)))
  ·have v:∀ {x'},x'+(na+(nb+1))<=N->Hv lt a b N x' (out.push va) na (nb+1):=λg=>⟨h',(aat e).elim (λy2=>cU 0x190090111 y2) (λy2=>cU 0x190009111 y2),Nat.le_of_lt h.a2,h.b1,h.b2,g⟩
   refine eG (λh=>e (beq_iff_eq.mp h)) ?_
   by_cases q:ac+1>=mg
   ·exact fL q (wpS_pure (kD _ (.inr ⟨rfl,v (aS 0x3192c1c19c03192c191cc0c011 [_,_,_,_] rfl hs)⟩)))
   ·exact eG q (wpS_pure (kY _ ⟨rfl,v (aS 0x3192c1c190cc03192c191cc0c011 [_,_,_,_] rfl hs)⟩))
 | false =>
  refine eG aaW (wpS_bind (bF eb ?_))
  have h':=h.r.pushB eb λy hy=>by
   rw [<- aax,oz ea] at hy
   rcases aal.mp hy with rfl | hy
   ·exact hl
   ·exact an.lin.trans (tR an.lin p.sa ea y (aax.mp hy)) hl
  by_cases e:nb=1
  ·exact fL (beq_iff_eq.mpr e) (wpS_pure (kD _ (.inl ⟨_,rfl,h'.first p e⟩)))
  ·have v:∀ {x'},x'+(na+1+nb)<=N->Hv lt a b N x' (out.push vb) (na+1) nb:=λg=>⟨h',h.a1,h.a2,by haveI:=h.b1;exact (aat e).elim (λy2=>cU 0x29019011190c29022 this y2) (λy2=>cU 0x290019111 y2),Nat.le_of_lt h.b2,g⟩
   refine eG (λh=>e (beq_iff_eq.mp h)) ?_
   by_cases q:bc+1>=mg
   ·exact fL q (wpS_pure (kD _ (.inr ⟨rfl,v (aS 0x32191cc19c03192c191cc0c011 [_,_,_,_] rfl hs)⟩)))
   ·exact eG q (wpS_pure (kY _ ⟨rfl,v (aS 0x32191cc190cc03192c191cc0c011 [_,_,_,_] rfl hs)⟩))
theorem FW {st':SortSt} (S:js st st') {N x:Nat} {c:HS} (h:Hv lt a b N x c.2.2.2.1 c.2.1 c.2.2.1) {K:ForInStep HS->SortSt->Prop} (kD:∀c st2,js st st2->Dn lt a b c\/Iv lt a b N 0 c->K (.done c) st2) (kY:∀c st2,js st st2->Iv lt a b N (x+1) c->K (.yield c) st2) :
  wpS (model prog w) A E s (Io a b c) K st':=by
 have key:∀ {out:Array Keyed} {na nb:Nat} (mg ac bc:Nat),Hv lt a b N x out na nb->wpS (model prog w) A E s (EH a b out na nb mg ac bc) K st':=by
  intro out na nb mg ac bc h
  cases nb with
  | zero=>exact absurd h.b1 ∅
  | succ m =>
  have hs:=h.s
  haveI h1:=h.a1
  exact FY an p (B:=na+m-1) (λr c st2 S' hr hc=>kD c st2 S' (.inl ⟨r,hc,hr⟩)) (λo i j mm u v st2 S' r1 r2 r3 r4 r5 r6=>⟨kD _ _ S' (.inr ⟨rfl,⟨r1,r2,r3,r4,r5,by dsimp only;exact aS 0x354c09c021c601654c013192c1c0c013 [_,_,_,_,_,_,_] rfl hs r6 (Nat.sub_le _ _)⟩⟩),kY _ _ S' ⟨rfl,⟨r1,r2,r3,r4,r5,by dsimp only;exact aS 0x354c190cc021c601654c013192c1c0c013 [_,_,_,_,_,_,_] rfl hs r6 (Nat.sub_le _ _)⟩⟩⟩) hk S h.r h.a1 h.a2 (Nat.le_of_succ_le_succ h.b1) h.b2 (sA _ _)
 unfold Io
 by_cases hm:c.2.2.2.2.1>1
 ·exact fL hm (key _ _ _ h)
 ·exact eG hm (key _ _ _ h)
theorem G8 {st':SortSt} (S:js st st') {x:Nat} {c:BY Nat} (h:Hv lt a b (a.size+b.size) x c.2.2.2.1 c.2.1 c.2.2.1) {K:ForInStep (BY Nat)->SortSt->Prop} (kD:∀c st2,js st st2->Dn lt a b c->K (.done c) st2) (kY:∀c st2,js st st2->Iv lt a b (a.size+b.size) (x+1) c->K (.yield c) st2) :
  wpS (model prog w) A E s (Ke a b c) K st':=by
 have hs:=h.s
 have hN:c.2.1+c.2.2.1<=a.size+b.size:=aam (Nat.le_add_left _ _) hs
 refine wpS_bind (wpS_mono (wpS_forRange (I:=λx c1 st2=>st2=st'/\Iv lt a b (c.2.1+c.2.2.1) x c1) (Q:=λc1 st2=>st2=st'/\(Dn lt a b c1\/Iv lt a b (c.2.1+c.2.2.1) 1 c1)) ?_ (λ_ _ g=>(g.2.2.no hN).elim) ⟨rfl,rfl,⟨h.r,h.a1,h.a2,h.b1,h.b2,Nat.le_of_eq (aa2 _)⟩⟩) λc1 st2 g=> ?_)
 ·rintro y d _ _ _ ⟨rfl,g⟩
  exact FV an p hk S g.2 (λ_ q=>⟨rfl,q⟩) λ_ q=>⟨rfl,q⟩
 rw [g.1]
 rcases g.2 with ⟨r,e,hr⟩ | ⟨e,v⟩
 ·unfold J1;rw [e];exact wpS_pure (kD _ _ S ⟨r,rfl,hr⟩)
 unfold J1;rw [e]
 have hs2:=v.s
 haveI hN2:c1.2.1+c1.2.2.1<=a.size+b.size:=aS 0x32c54c010c54c19c0132c10c012 [_,_,_,_,_,_] rfl hN hs2
 refine wpS_bind (wpS_lift (wpAny_rule ⟨rfl,?_⟩))
 refine wpS_bind (wpS_mono (wpS_forRange (I:=λx d st3=>js st st3/\Iv lt a b (c1.2.1+c1.2.2.1) x d) (Q:=λd st3=>js st st3/\(Dn lt a b d\/Iv lt a b (c1.2.1+c1.2.2.1) 0 d)) ?_ (λ_ _ g=>(g.2.2.no hN2).elim) ⟨S,rfl,⟨v.r,v.a1,v.a2,v.b1,v.b2,Nat.le_of_eq (aa2 _)⟩⟩) λd st3 g=> ?_)
 ·exact λy d st3 _ _ g=>FW an p hk g.1 g.2.2 (λ_ _ S q=>⟨S,q⟩) λ_ _ S q=>⟨S,q⟩
 rcases g.2 with ⟨r,e,hr⟩ | ⟨e,u⟩
 ·unfold J2;rw [e];exact wpS_pure (kD _ _ g.1 ⟨r,rfl,hr⟩)
 ·haveI hs3:=u.s
  unfold J2;rw [e,eV]
  exact wpS_bind (wpS_modify (wpS_pure (kY _ _ (g.1.gal _) ⟨rfl,⟨u.r,u.a1,u.a2,u.b1,u.b2,by dsimp only;exact aS 0x43c087c190cc065c087c09c0121c65c19c0143c21c0c013 [_,_,_,_,_,_,_,_,_] rfl hs hs2 hs3⟩⟩)))
end
theorem AL (an:sV (model prog w) A E s lt ok κ) (p:JH lt ok a b) {st:SortSt} (hk:kindOf st=κ) (hlast:∀x,a[a.size-1]? = some x-> ∀y∈b.toList,Le lt y x) (ha:1<=a.size) (hb:1<=b.size) {Q:Array Keyed->SortSt->Prop}
  (hQ:∀r st',js st st'->rV lt (a.toList++b.toList) r.toList->Q r st'):wpS (model prog w) A E s (uF a b) Q st:=by
 refine bP λY9 y9=> ?_
 refine bz (a.size-1) λn en=> ?_
 have en':a.size=n+1:=by rw [<- en,aaa ha]
 rw [en] at hlast
 obtain ⟨va,ea,ma⟩:=eK (x:=a) (i:=n) (Nat.le_of_eq en'.symm)
 refine y9 ?_
 have R0:Rh lt a b #[va] n b.size:=by
  haveI R00:Rh lt a b #[] (n+1) b.size:=by
   unfold Rh
   rw [List.take_of_length_le (by rw [aaX,en'];exact aaD _),List.take_of_length_le (by rw [aaX];exact aaD _)]
   exact ⟨.nil,List.pairwise_reverse.mpr p.sa,List.pairwise_reverse.mpr p.sb,λ_ h=>(nomatch h),λ_ h=>(nomatch h),(List.reverse_perm _).append (List.reverse_perm _)⟩
  exact R00.pushA ea λy hy=>hlast va ea y (List.mem_of_mem_take hy)
 rw [Bu,en]
 refine wpS_bind (wpS_lift (wpAny_rule ⟨rfl,wpS_bind (bF ea ?_)⟩))
 unfold Kd;rw [en]
 by_cases e1:n=0
 ·exact fL (beq_iff_eq.mpr e1) (wpS_pure (hQ _ _ (js.refl _) (R0.done (.inr e1))))
 refine eG (λh=>e1 (beq_iff_eq.mp h)) ?_
 by_cases e2:b.size=1
 ·exact fL (beq_iff_eq.mpr e2) (wpS_pure (hQ _ _ (js.refl _) (R0.first p e2)))
 refine eG (λh=>e2 (beq_iff_eq.mp h)) (wpS_bind (wpS_get (wpS_bind (wpS_mono (wpS_forRange (I:=λx c st'=>js st st'/\Iv lt a b (a.size+b.size) x c) (Q:=λc st'=>js st st'/\Dn lt a b c) ?_ (λ_ _ g=>(g.2.2.no (aaD _)).elim) ⟨js.refl _,rfl,⟨R0,by dsimp only;exact (aat e1).elim (λy2=>cU 0x190090111 y2) (λy2=>cU 0x190009111 y2),by dsimp only;exact aS 0x10191c0311 [_,_] rfl en',by dsimp only;exact (aat e2).elim (λy2=>cU 0x29019011019022 hb y2) (λy2=>cU 0x290019111 y2),aaD _,by dsimp only;exact aS 0x20c21c09c0191c0311 [_,_,_] rfl en'⟩⟩) λc st' g=> ?_))))
 ·exact λx c st' _ _ g=>G8 an p hk g.1 g.2.2 (λ_ _ S q=>⟨S,q⟩) λ_ _ S q=>⟨S,q⟩
 ·refine bP λY9 y9=> ?_
  obtain ⟨S,r,e,hr⟩:=g
  refine y9 ?_
  unfold Kc;rw [e];exact wpS_pure (hQ r _ S hr)
end
open PySem PyProof.Rows
theorem Ab (i:Nat):mergeAt' i=(do
 let s <- get
 let (some (sa,na,power),some (sb,nb,_)):=((pendingOf s)[i]?,(pendingOf s)[i+1]?) | unsupported "internal:list.sort.pending"
 set (setPending s (((pendingOf s).setIfInBounds i (sa,na+nb,power)).eraseIdxIfInBounds (i+1)))
 let some k <- ft false (<- elem' (arrOf s) sb) (arrOf s) sa na 0 | return false
 let (sa,na):=(sa+k,na-k)
 if na==0 then return true
 let some nb <- ft true (<- elem' (arrOf s) (sa+na-1)) (arrOf s) sb nb (nb-1) | return false
 if nb==0 then return true
 let x:=(arrOf s).extract sa sb
 let y:=(arrOf s).extract sb (sb+nb)
 let merged <- if na<=nb then uG x y else uF x y
 modify λs=>setArr s (merged.toList.zipIdx.foldl (λa (p,j)=>a.setIfInBounds (sa+j) p) (arrOf s))
 return (failedOf (<- get)).isNone):=rfl
section
theorem ni {u:List Keyed} {k:Nat} {x:Keyed} (h:x∈u.take k):∃j,j<k/\u[j]? = some x:=by
 obtain ⟨j,hj,e⟩:=List.getElem_of_mem h
 rw [List.length_take] at hj
 refine ⟨j,aS 0x201210110112 [_,_,_] rfl hj (Nat.min_le_left _ _),?_⟩
 rw [List.getElem_take] at e
 rw [<- e];exact aak _
theorem jI {u:List Keyed} {k:Nat} {x:Keyed} (h:x∈u.drop k):∃j,A3 (k<=j) (j<u.length) (u[j]? = some x):=by
 obtain ⟨j,hj,e⟩:=List.getElem_of_mem h
 rw [List.length_drop] at hj
 refine ⟨k+j,aS 0x10c000 [_,_] rfl,by rw [Nat.add_comm];exact Nat.add_lt_of_lt_sub hj,?_⟩
 rw [List.getElem_drop] at e
 rw [<- e];exact aak _
theorem Aj {u:List Keyed} (p:u.Pairwise (Le lt)) {i j:Nat} {x y:Keyed} (hij:i<=j) (hx:u[i]? = some x) (hy:u[j]? = some y):i=j\/Le lt x y:=by
 obtain ⟨h1,e1⟩:=aab.mp hx
 obtain ⟨h2,e2⟩:=aab.mp hy
 rcases Nat.lt_or_ge i j with h | h
 ·exact .inr (e1▸e2▸List.pairwise_iff_getElem.mp p i j h1 h2 h)
 ·exact .inl (aaf (hij) (h))
theorem u6 {arr:Array Keyed} {P u R:List Keyed} (e:arr.toList=P++(u++R)) {j:Nat} (hj:j<u.length):arr[P.length+j]? = u[j]? := by
 rw [<- aaz,e,aan (aaJ _ _),aaA,aaw hj]
theorem G5 (an:sV (model prog w) A E s lt ok κ) {arr:Array Keyed} {P u R:List Keyed} (e:arr.toList=P++(u++R)) (su:u.Pairwise (Le lt)) (ou:∀x∈u,ok x) {key:Keyed} (okk:ok key) {st:SortSt} (hk:kindOf st=κ) {hint:Nat} (hh:hint<u.length) {Q:Option Nat->SortSt->Prop}
  (hQ:∀k,k<=u.length->(∀x∈u.take k,Le lt x key)->(∀x∈u.drop k,lt key x=true)->Q (some k) st):wpS (model prog w) A E s (ft false key arr P.length u.length hint) Q st:=by
 have hf:∀j,j<u.length->u[j]? = some ((u[j]?).getD key)/\ok ((u[j]?).getD key):=λj hj=>by
  rw [aak hj];exact ⟨rfl,ou _ (List.getElem_mem _)⟩
 refine lV an (f:=λj=>(u[j]?).getD key) hk okk (λj hj=>⟨(u6 e hj).trans (hf j hj).1,(hf j hj).2⟩) hh (λj l hjl hl hb=> ?_) λk hkn h1 h2=>hQ k hkn (λx hx=> ?_) λx hx=> ?_
 ·have hb':(!lt key ((u[l]?).getD key))=true:=hb
  show (!lt key ((u[j]?).getD key))=true
  rcases Aj su hjl (hf j (aS 0x201211110012 [_,_,_] rfl hjl hl)).1 (hf l hl).1 with h | h
  ·rw [h];exact hb'
  ·rw [Bool.not_eq_true'] at hb' ⊢
   exact an.lin.trans h hb'
 ·obtain ⟨j,hj,ej⟩:=ni hx
  haveI:=h1 j hj
  rw [ej] at this
  haveI:(!lt key x)=true:=this
  rw [Bool.not_eq_true'] at this;exact this
 ·obtain ⟨j,hj,hj2,ej⟩:=jI hx
  haveI:=h2 j hj hj2
  rw [ej] at this
  haveI:(!lt key x)=false:=this
  rw [Bool.not_eq_false'] at this;exact this
theorem G7 (an:sV (model prog w) A E s lt ok κ) {arr:Array Keyed} {P u R:List Keyed} (e:arr.toList=P++(u++R)) (su:u.Pairwise (Le lt)) (ou:∀x∈u,ok x) {key:Keyed} (okk:ok key) {st:SortSt} (hk:kindOf st=κ) {hint:Nat} (hh:hint<u.length) {Q:Option Nat->SortSt->Prop}
  (hQ:∀k,k<=u.length->(∀x∈u.take k,lt x key=true)->(∀x∈u.drop k,Le lt key x)->Q (some k) st):wpS (model prog w) A E s (ft true key arr P.length u.length hint) Q st:=by
 have hf:∀j,j<u.length->u[j]? = some ((u[j]?).getD key)/\ok ((u[j]?).getD key):=λj hj=>by
  rw [aak hj];exact ⟨rfl,ou _ (List.getElem_mem _)⟩
 refine lV an (f:=λj=>(u[j]?).getD key) hk okk (λj hj=>⟨(u6 e hj).trans (hf j hj).1,(hf j hj).2⟩) hh (λj l hjl hl hb=> ?_) λk hkn h1 h2=>hQ k hkn (λx hx=> ?_) λx hx=> ?_
 ·have hb':lt ((u[l]?).getD key) key=true:=hb
  show lt ((u[j]?).getD key) key=true
  rcases Aj su hjl (hf j (aS 0x201211110012 [_,_,_] rfl hjl hl)).1 (hf l hl).1 with h | h
  ·rw [h];exact hb'
  ·cases e:lt ((u[j]?).getD key) key with
   | true=>rfl
   | false =>
    have:=an.lin.ntr h e
    rw [hb'] at this;cases this
 ·obtain ⟨j,hj,ej⟩:=ni hx
  haveI:=h1 j hj
  rw [ej] at this
  exact this
 ·obtain ⟨j,hj,hj2,ej⟩:=jI hx
  haveI:=h2 j hj hj2
  rw [ej] at this
  exact this
theorem sI:∀(c:List Keyed) (n o:Nat) (arr:Array Keyed) (P D R:List Keyed),arr.toList=P++(D++R)->D.length=c.length->n+o=P.length->((c.zipIdx o).foldl (λa (p:Keyed×Nat)=>a.setIfInBounds (n+p.2) p.1) arr).toList=P++(c++R)
 | [],n,o,arr,P,D,R,e,hd,hn=>by
  rw [List.length_eq_zero_iff.mp hd] at e;exact e
 | x::c,n,o,arr,P,D,R,e,hd,hn=>by
  cases D with
  | nil=>cases hd
  | cons d D =>
   rw [List.zipIdx_cons,List.foldl_cons]
   haveI e':(arr.setIfInBounds (n+o) x).toList=(P++[x])++(D++R):=by
    rw [Array.toList_setIfInBounds,e,hn,List.set_append_right _ _ (aaD _),Nat.sub_self,aae];rfl
   haveI:=sI c n (o+1) (arr.setIfInBounds (n+o) x) (P++[x]) D R e' (by simpa using hd) (by rw [aad,<- Nat.add_assoc,hn];rfl)
   rw [aae] at this
   exact this
theorem Hb {σ:Type} {x:σ} {Q:PUnit->σ->Prop} {st:σ} (h:Q ⟨⟩ x):wpS M A E s (set x:StateT σ Sem PUnit) Q st:=by
 unfold wpS;rw [StateT.run_set];exact wpAny_pure ⟨rfl,h⟩
theorem Gh {arr:Array Keyed} {P u R:List Keyed} (e:arr.toList=P++(u++R)) (k:Nat) (hk:k<=u.length):(arr.extract (P.length+k) (P.length+u.length)).toList=u.drop k:=by
 rw [ec,e,List.drop_append,List.drop_eq_nil_of_le (aaJ _ _),List.nil_append,aaA,List.drop_append_of_le_length hk,List.take_append_of_le_length (by rw [List.length_drop];exact aS 0x40024c30131c21c0c212 [_,_,_,_,_] rfl (aaa (aS 0x12c02c010011 [_,_,_] rfl hk)) (sA _ _))]
 exact List.take_of_length_le (by rw [List.length_drop];exact aS 0x40013c4c23c01210c212 [_,_,_,_,_] rfl (aaa hk) (sA _ _))
theorem Ez {arr:Array Keyed} {P v R:List Keyed} (e:arr.toList=P++(v++R)) (m:Nat) (hm:m<=v.length):(arr.extract P.length (P.length+m)).toList=v.take m:=by
 rw [ec,e,List.drop_left,aaA,List.take_append_of_le_length hm]
theorem AK (an:sV (model prog w) A E s lt ok κ) {st:SortSt} (hk:kindOf st=κ) (hfail:failedOf st=none) {p1 p2:List (Nat×Nat×Nat)} {P u v R:List Keyed} {pw pw2:Nat}
  (hp:(pendingOf st).toList=p1++(P.length,u.length,pw)::(P.length+u.length,v.length,pw2)::p2) (he:(arrOf st).toList=P++(u++(v++R))) (su:u.Pairwise (Le lt)) (sv:v.Pairwise (Le lt)) (ou:∀x∈u,ok x) (ov:∀x∈v,ok x) (hu:1<=u.length) (hv:1<=v.length)
  {Q:Bool->SortSt->Prop} (hQ:∀c (st':SortSt),kindOf st'=κ->failedOf st'=none->(pendingOf st').toList=p1++(P.length,u.length+v.length,pw)::p2->(arrOf st').toList=P++(c++R)->rV lt (u++v) c->Q true st') :
  wpS (model prog w) A E s (mergeAt' p1.length) Q st:=by
 rw [Ab]
 refine wpS_bind (wpS_get ?_)
 haveI g1:(pendingOf st)[p1.length]? = some (P.length,u.length,pw):=by rw [<- aaz,hp,aan (aaD _),Nat.sub_self];rfl
 have g2:(pendingOf st)[p1.length+1]? = some (P.length+u.length,v.length,pw2):=by rw [<- aaz,hp,aan (aaJ _ _),aaA];rfl
 rw [g1,g2]
 dsimp only
 refine wpS_bind (Hb ?_)
 refine bz (setPending st (((pendingOf st).setIfInBounds p1.length (P.length,u.length+v.length,pw)).eraseIdxIfInBounds (p1.length+1))) λst1 e1=> ?_
 have hp1:(pendingOf st1).toList=p1++(P.length,u.length+v.length,pw)::p2:=by
  rw [<- e1]
  show (((pendingOf st).setIfInBounds p1.length (P.length,u.length+v.length,pw)).eraseIdxIfInBounds (p1.length+1)).toList=_
  rw [Array.toList_eraseIdxIfInBounds,Array.toList_setIfInBounds,hp,List.set_append_right _ _ (aaD _),Nat.sub_self,List.eraseIdx_append_of_length_le (aaJ _ _),aaA];rfl
 have k1:kindOf st1=κ:=by rw [<- e1];exact hk
 have a1:arrOf st1=arrOf st:=by rw [<- e1]
 have f1:failedOf st1=none:=by rw [<- e1];exact hfail
 rw [e1]
 have he2:(arrOf st).toList=(P++u)++(v++R):=by rw [he,aae]
 obtain ⟨v0,vt,ev⟩:∃v0 vt,v=v0::vt:=by
  cases v with
  | nil=>simp at hv
  | cons a b=>exact ⟨a,b,rfl⟩
 have x0:(arrOf st)[P.length+u.length]? = some v0:=by
  haveI:=u6 he2 (j:=0) (aS 0x91019011 [_] rfl hv)
  rw [aad,Nat.add_zero] at this
  rw [this,ev];rfl
 have o0:ok v0:=ov v0 (by rw [ev];exact .head _)
 have v0le:∀y∈v,y=v0\/Le lt v0 y:=λy hy=>by
  rw [ev] at hy sv
  rcases aal.mp hy with h | h
  ·exact .inl h
  ·exact .inr ((aaM.mp sv).1 y h)
 refine wpS_bind (bF x0 (wpS_bind (G5 an he su ou o0 k1 (aS 0x91019011 [_] rfl hu) λk hku h1 h2=> ?_)))
 dsimp only
 have u1v:∀x∈u.take k,∀y∈v,Le lt x y:=λx hx y hy=>by
  rcases v0le y hy with rfl | h
  ·exact h1 x hx
  ·exact an.lin.trans (h1 x hx) h
 have gv:∀ {c:List Keyed},rV lt (u++v) c->(arrOf st).toList=P++(c++R)->Q true st1:=λhc hca=>hQ _ st1 k1 f1 hp1 (by rw [a1];exact hca) hc
 by_cases hz:u.length-k=0
 ·rw [if_pos (beq_iff_eq.mpr hz)]
  haveI:u.take k=u:=List.take_of_length_le (aS 0x21020c101090212 [_,_,_] rfl hz (sA _ _))
  rw [this] at u1v
  exact wpS_pure (gv ⟨aar.mpr ⟨su,sv,u1v⟩,.refl _⟩ (by rw [he,aae]))
 rw [if_neg (λh=>hz (beq_iff_eq.mp h))]
 obtain ⟨ul,eul⟩:∃ul,u[u.length-1]? = some ul:=⟨_,aak (aS 0x1011190c211 [_,_] rfl (aaa hu))⟩
 have xl:(arrOf st)[P.length+k+(u.length-k)-1]? = some ul:=by
  haveI:=u6 he (j:=u.length-1) (aS 0x1011190c211 [_,_] rfl (aaa hu))
  rw [show P.length+k+(u.length-k)-1=P.length+(u.length-1) from aaf ((aat hz).elim (λy2=>hH [_,_,_,_,_,_] [] 0x54c30195c101204cc3010921110014 hku y2 (Nat.sub_le _ _) (sA _ _)) (λy2=>hH [_,_,_,_,_,_] [] 0x51c00195c401423c21321cc190c213 (aaa (mK 0x21cc190009111 y2)) (aaa hku) (sA _ _))) (hH [_,_,_,_,_,_] [] 0x350c04195c2112c401193c210cc013 (sA _ _) (sA _ _) (aaa hu)),this,eul]
 have oul:ok ul:=ou ul (aaN eul)
 have ule:∀x∈u,x=ul\/Le lt x ul:=λx hx=>by
  obtain ⟨j,hj,e⟩:=List.getElem_of_mem hx
  rcases Aj su (show j<=u.length-1 from aS 0x200192c10110112 [_,_,_] rfl hj (sA _ _)) (e▸aak hj) eul with h | h
  ·subst h
   rw [aak hj,e] at eul
   exact .inl (Option.some.inj eul)
  ·exact .inr h
 have gt:=λ{Q}=>G7 (Q:=Q) an he2 sv ov oul k1 (hint:=v.length-1) (aS 0x1011190c211 [_,_] rfl (aaa hv))
 rw [aad] at gt
 refine wpS_bind (bF xl (wpS_bind (gt λm hmv h3 h4=> ?_)))
 dsimp only
 have uv2:∀x∈u,∀y∈v.drop m,Le lt x y:=λx hx y hy=>by
  rcases ule x hx with rfl | h
  ·exact h4 y hy
  ·exact an.lin.trans h (h4 y hy)
 by_cases hm:m=0
 ·rw [if_pos (beq_iff_eq.mpr hm)]
  subst hm
  exact wpS_pure (gv ⟨aar.mpr ⟨su,sv,uv2⟩,.refl _⟩ (by rw [he,aae]))
 rw [if_neg (λh=>hm (beq_iff_eq.mp h))]
 have ex:=Gh he k hku
 have ey:=Ez he2 m hmv
 rw [aad] at ey
 refine bz ((arrOf st).extract (P.length+k) (P.length+u.length)) λx hxe=> ?_
 refine bz ((arrOf st).extract (P.length+u.length) (P.length+u.length+m)) λy hye=> ?_
 rw [hxe] at ex ⊢
 rw [hye] at ey ⊢
 have sx:x.size=u.length-k:=by rw [<- aaX,ex,List.length_drop]
 have sy:y.size=m:=by rw [<- aaX,ey,List.length_take];exact Nat.min_eq_left hmv
 have sux:x.toList.Pairwise (Le lt):=by rw [ex];exact su.drop
 have svy:y.toList.Pairwise (Le lt):=by rw [ey];exact sv.take
 have ox:∀z∈x.toList,ok z:=λz hz=>ou z (List.mem_of_mem_drop (ex▸hz))
 have oy:∀z∈y.toList,ok z:=λz hz=>ov z (List.mem_of_mem_take (ey▸hz))
 have ylt:∀z∈y.toList,lt z ul=true:=λz hz=>h3 z (ey▸hz)
 have after:∀(r:Array Keyed) (st':SortSt),js st1 st'->rV lt (x.toList++y.toList) r.toList->wpS (model prog w) A E s (do
   modify λs=>setArr s (r.toList.zipIdx.foldl (λa (p,j)=>a.setIfInBounds (P.length+k+j) p) (arrOf s))
   return (failedOf (<- get)).isNone) Q st':=λr st' S hr=>by
  refine wpS_bind (wpS_modify (wpS_bind (wpS_get (wpS_pure ?_))))
  show Q (failedOf st').isNone (setArr st' _)
  rw [S.f,f1]
  haveI hlen:(u.drop k++v.take m).length=r.toList.length:=by rw [hr.2.length_eq,ex,ey]
  haveI earr:(arrOf st').toList=(P++u.take k)++((u.drop k++v.take m)++(v.drop m++R)):=by
   rw [S.a,a1,he]
   haveI e1:u.take k++u.drop k=u:=aaU k u
   haveI e2:v.take m++v.drop m=v:=aaU m v
   calc P++(u++(v++R))=P++((u.take k++u.drop k)++((v.take m++v.drop m)++R)):=by rw [e1,e2]
    _=_:=by simp only [aae]
  haveI eo:=sI r.toList (P.length+k) 0 (arrOf st') (P++u.take k) (u.drop k++v.take m) (v.drop m++R) earr hlen (by rw [aad,List.length_take,Nat.min_eq_left hku];rfl)
  refine hQ (u.take k++(r.toList++v.drop m)) _ (S.k.trans k1) (S.f.trans f1) ?_ ?_ ⟨?_,?_⟩
  ·show (pendingOf st').toList=_
   rw [S.p];exact hp1
  ·refine Eq.trans eo ?_
   simp only [aae]
  ·have mem:∀z∈r.toList,z∈u.drop k\/z∈v.take m:=λz hz=>by
    haveI:=hr.2.mem_iff.mp hz
    rw [ex,ey] at this
    exact aao.mp this
   haveI su':(u.take k++u.drop k).Pairwise (Le lt):=by rw [aaU];exact su
   haveI sv':(v.take m++v.drop m).Pairwise (Le lt):=by rw [aaU];exact sv
   refine aar.mpr ⟨su.take,aar.mpr ⟨hr.1,sv.drop,λz hz q hq=> ?_⟩,λz hz q hq=> ?_⟩
   ·rcases mem z hz with h | h
    ·exact uv2 z (List.mem_of_mem_drop h) q hq
    ·exact (aar.mp sv').2.2 z h q hq
   ·rcases aao.mp hq with h | h
    ·rcases mem q h with h | h
     ·exact (aar.mp su').2.2 z hz q h
     ·exact u1v z hz q (List.mem_of_mem_take h)
    ·exact u1v z hz q (List.mem_of_mem_drop h)
  ·haveI hp':=hr.2
   rw [ex,ey] at hp'
   refine ((hp'.append_right (v.drop m)).append_left (u.take k)).trans ?_
   haveI e1:u.take k++u.drop k=u:=aaU k u
   haveI e2:v.take m++v.drop m=v:=aaU m v
   refine List.Perm.of_eq ?_
   calc u.take k++(u.drop k++v.take m++v.drop m)=(u.take k++u.drop k)++(v.take m++v.drop m):=by simp only [aae]
    _=_:=by rw [e1,e2]
 by_cases hle:u.length-k<=m
 ·rw [if_pos hle]
  refine wpS_bind (AM an ⟨sux,svy,ox,oy,λz hz q hq=> ?_⟩ k1 (λz q hz hq=> ?_) ((aat hz).elim (λy2=>cM 0x1190090111 y2) (λy2=>cM 0x1901091110312 sx y2)) ((aat hm).elim (λy2=>cM 0x1190090111 y2) (λy2=>cM 0x1901091110312 sy y2)) after)
  ·rw [ex,sx,List.drop_drop] at hq
   obtain ⟨j,hj,hj2,ej⟩:=jI hq
   obtain rfl:j=u.length-1:=aaf (aS 0x200192c10110112 [_,_,_] rfl hj2 (sA _ _)) (aS 0x230191c50105c4014193c21210c014 [_,_,_,_,_,_] rfl hj (aaa hu) (sA _ _) (sA _ _))
   rw [eul] at ej;cases ej
   exact an.lin.of_lt (ylt z hz)
  ·rw [<- aaz,ey,List.getElem?_take_of_lt (by exact (aat hm).elim (λy2=>cU 0x91090111 y2) (λy2=>y2)),ev] at hz
   cases hz
   refine h2 q ?_
   rw [<- aaz,ex] at hq
   exact aaN hq
 ·rw [if_neg hle]
  refine wpS_bind (AL an ⟨sux,svy,ox,oy,λz hz q hq=> ?_⟩ k1 (λz hz q hq=> ?_) (aS 0x190214110312 [_,_,_] rfl sx hle) ((aat hm).elim (λy2=>cM 0x1190090111 y2) (λy2=>cM 0x1901091110312 sy y2)) after)
  ·rw [ey] at hz
   haveI hz':z∈v.take 1:=by
    rw [List.take_take] at hz
    rwa [Nat.min_eq_left (by exact (aat hm).elim (λy2=>cU 0x190090111 y2) (λy2=>cU 0x190009111 y2))] at hz
   rw [ev] at hz'
   rw [aaj.mp hz']
   exact an.lin.of_lt (h2 q (ex▸hq))
  ·rw [<- aaz,ex,sx,List.getElem?_drop,show k+(u.length-k-1)=u.length-1 from aaf (aS 0x402c0194c301321c211190c213 [_,_,_,_,_] rfl (aaa (aS 0x19010411 [_,_] rfl hle)) (aaa hku) (sA _ _)) (aS 0x13c402194c2130c201191c0013 [_,_,_,_,_] rfl (sA _ _) (sA _ _) (aaa hu)),eul] at hz
   cases hz
   exact an.lin.of_lt (ylt q hq)
end
open PySem PyProof.Rows
theorem Jk {l r:Nat} (h:¬l>=r):l<=(l+r)/2/\(l+r)/2+1<=r :=
 have h:=Nat.lt_of_not_le h
 ⟨(Nat.le_div_iff_mul_le ∅).mpr (aam (Nat.le_of_eq (Nat.mul_two l)) (Nat.add_le_add_left (Nat.le_of_lt h) l)),(Nat.div_lt_iff_lt_mul ∅).mpr (Nat.lt_of_lt_of_eq (Nat.add_lt_add_right h r) (Nat.mul_two r).symm)⟩
theorem JT {l r k i:Nat} (h:¬l>=r) (m:r-l<=k-i):(l+r)/2-l<=k-(i+1)/\r-((l+r)/2+1)<=k-(i+1) :=
 have b:=Jk h
 ⟨Nat.le_sub_one_of_lt (aa4 (Nat.sub_lt_sub_right b.1 b.2) m),Nat.le_sub_one_of_lt (aa4 (Nat.sub_lt_sub_left (Nat.lt_of_not_le h) (Nat.lt_succ_of_le b.1)) m)⟩
theorem Ej {arr:Array Keyed} {P s t R:List Keyed} {x:Keyed} (e:arr.toList=P++((s++t)++(x::R))):(bubble arr (P.length+(s++t).length) t.length).toList=P++((s++x::t)++R):=by
 haveI hsz:P.length+(s++t).length<arr.size:=by rw [<- aaX,e];simp only [aad,aav];exact aS 0x193c21cc0c21c0c10 [_,_,_,_] rfl
 apply List.ext_getElem?
 intro k
 rw [aaz,getElem?_bubble hsz _ (by rw [aad];exact aS 0x2c1c000 [_,_,_] rfl) k]
 simp only [<- aaz,e,aad]
 by_cases h1:k<P.length
 ·rw [if_neg (by exact λhz=>aS 0x909642c43c1c01203110113 [_,_,_,_,_] rfl h1 hz (sA _ _)),if_neg (λq=>Bx 0x909642c43c1c01021110113 h1 q.1 (sA _ _)),aaw h1,aaw h1]
 ·obtain ⟨j,rfl⟩:∃j,k=P.length+j:=⟨k-P.length,aaf (aS 0x12c0021c0011 [_,_,_] rfl (sA _ _)) (aS 0x201c0210c211 [_,_,_] rfl (aaa (aS 0x1010511 [_,_] rfl h1)))⟩
  have ap:∀(l:List Keyed) (i:Nat),(P++l)[P.length+i]? = l[i]? := λl i=>by rw [aan (aaJ _ _),aaA]
  rw [ap ((s++x::t)++R) j]
  by_cases h2:j=s.length
  ·subst h2
   rw [if_pos (by exact aaf (aS 0x310c023c21c0c011 [_,_,_,_] rfl (sA _ _)) (aS 0x32c0013c2c10c211 [_,_,_,_] rfl (aaa (aS 0x2c1c000 [_,_,_] rfl)))),ap,aae,aae,aan (by exact aS 0x10c000 [_,_] rfl),aan (by exact aS 0x21002c10c011 [_,_,_] rfl (sA _ _)),aan (by exact aS 0x0 [_] rfl)]
   rw [show s.length+t.length-s.length-t.length=0 from aaf ((Nat.le_total _ _).elim (λy2=>vS 0x90013c32c21210c212 (aaa y2) (aaa (cM 0x10c000))) (λy2=>cU 0x900090211 (aaT y2))) (cU 0x900),Nat.sub_self];rfl
  ·rw [if_neg (by exact λx9=>(aat h2).elim (λy2=>Bx 0x909642c43c0c013111210c313 x9 y2 (sA _ _)) (λy2=>Bx 0x909643c0c42c211311210c213 x9 y2 (aaa (mK 0x2c1c000))))]
   by_cases h3:s.length<j/\j<=s.length+t.length
   ·rw [if_pos (by exact ⟨Bx 0x14c2130c4c32c2110112 h3.1 (aaa (mK 0x2c1c000)),vS 0x21c3c03c021c0011 h3.2⟩),show P.length+j-1=P.length+(j-1) by exact aaf (aS 0x31c00193c20121c190c212 [_,_,_,_] rfl (aaa (aS 0x12c19010111 [_,_,_] rfl h3.1)) (sA _ _)) (aS 0x230c01193c21192c10c012 [_,_,_,_] rfl (sA _ _) (aaa (aS 0x119010111 [_,_] rfl h3.1))),ap,aae,aae,aan (by exact aS 0x200192c10110112 [_,_,_] rfl h3.1 (sA _ _)),aaw (by exact (Nat.le_total _ _).elim (λy2=>Bx 0x2310194c21413c2121c0013 h3.2 (aaa y2) (aaa (cM 0x119010111 h3.1))) (λy2=>vS 0x2310932120c10110113 h3.1 h3.2 (aaT y2))),aan (by exact aS 0x10010111 [_,_] rfl h3.1)]
    obtain ⟨i,hi⟩:∃i,j-s.length=i+1:=⟨j-s.length-1,aaf ((sA _ _)) ((Nat.le_total _ _).elim (λy2=>cM 0x1190c01190c211 (aaa y2)) (λy2=>vS 0x3192c003c1010922110113 h3.1 (aaT y2) (sA _ _)))⟩
    rw [hi,aa3,List.getElem?_cons_succ,aaw (by exact aS 0x241013c21194c33121c0013 [_,_,_,_,_] rfl h3.2 hi (aaa (aS 0x10010111 [_,_] rfl h3.1))),show j-1-s.length=i from aaf ((aat h2).elim (λy2=>(Nat.le_total _ _).elim (λy1=>Bx 0x4200301312c2110113 y2 (aaa y1) (Nat.sub_le _ _)) (λy1=>cM 0x100090211 (aaT y1))) (λy2=>(Nat.le_total _ _).elim (λy1=>hH [_,_,_,_,_,_] [] 0x12030c5015194c21432c21191c0214 hi (aaa y1) (aaa (cM 0x119010111 y2)) (sA _ _)) (λy1=>cM 0x100090211 (aaT y1)))) (hH [_,_,_,_,_,_] [] 0x310540c21192c50143c201191c0314 hi (sA _ _) (sA _ _) (aaa (cM 0x10010111 h3.1)))]
   ·rw [if_neg (λq=>h3 ⟨by haveI:=q.1;exact Bx 0x23140c43c1c0121c0112 q.1 (sA _ _),by haveI:=q.2;exact vS 0x32c1032c0c10c011 q.2⟩),ap]
    by_cases h4:j<s.length
    ·rw [aae,aae,aaw h4,aaw h4]
    ·obtain ⟨i,rfl⟩:∃i,j=s.length+t.length+1+i:=⟨j-(s.length+t.length+1),by haveI h5:s.length+t.length<j:=Nat.lt_of_not_le (λq=>h3 ⟨(aat h2).elim (λy2=>cM 0x11101110522 h4 y2) (λy2=>y2),q⟩);exact aaf (vS 0x11932ccc001932cc1c0011 (sA _ _)) (vS 0x301921ccc031921cc0c211 (aaa (mK 0x21910cc0210c111 h5)))⟩
     rw [aan (by rw [aad];exact aS 0x21910ccc10c00 [_,_,_] rfl),aan (by rw [aad,aav];exact aS 0x21910ccc191c0c00 [_,_,_] rfl),aad,aad,aav]
     rw [show s.length+t.length+1+i-(s.length+t.length)=i+1 from aaf (aS 0x193c0031921ccc21c0c211 [_,_,_,_] rfl (aaa (aS 0x21910ccc10c00 [_,_,_] rfl))) (aS 0x3192c010c3c21910ccc011 [_,_,_,_] rfl (sA _ _)),show s.length+t.length+1+i-(s.length+(t.length+1))=i from aaf (aS 0x30031921ccc192c1c0c211 [_,_,_,_] rfl (aaa (aS 0x21910ccc191c0c00 [_,_,_] rfl))) (aS 0x320191c0c3c21910ccc011 [_,_,_,_] rfl (sA _ _)),List.getElem?_cons_succ]
theorem EY {arr:Array Keyed} {P D R:List Keyed} (e:arr.toList=P++(D++R)):(mirror arr P.length (P.length+D.length) ((P.length+D.length-P.length)/2)).toList=P++(D.reverse++R):=by
 haveI hsz:P.length+D.length<=arr.size:=by rw [<- aaX,e];simp only [aad];exact aS 0x21c0c10c00 [_,_,_] rfl
 apply List.ext_getElem?
 intro k
 rw [aaz,getElem?_mirror_all hsz k]
 simp only [<- aaz,e]
 by_cases h1:k<P.length
 ·rw [if_neg (λq=>cM 0x9096010110112 h1 q.1),aaw h1,aaw h1]
 ·obtain ⟨j,rfl⟩:∃j,k=P.length+j:=⟨k-P.length,aaf (aS 0x12c0021c0011 [_,_,_] rfl (sA _ _)) (aS 0x201c0210c211 [_,_,_] rfl (aaa (aS 0x1010511 [_,_] rfl h1)))⟩
  have ap:∀(l:List Keyed) (i:Nat),(P++l)[P.length+i]? = l[i]? := λl i=>by rw [aan (aaJ _ _),aaA]
  rw [ap (D.reverse++R) j]
  by_cases h2:j<D.length
  ·rw [if_pos (⟨cM 0x10c000,mK 0x12c02c110111 h2⟩),show P.length+(P.length+D.length)-1-(P.length+j)=P.length+(D.length-1-j) from aaf ((Nat.le_total _ _).elim (λy2=>hH [_,_,_,_,_,_,_] [] 0x61c00195c40126c50141c1c193c21321c0c214 (aaa y2) (aaa (mK 0x12c2c19010111 h2)) (sA _ _) (sA _ _)) (λy2=>mK 0x21c00090211 (aaT y2))) ((Nat.le_total _ _).elim (λy2=>hH [_,_,_,_,_,_,_] [] 0x405c06192c21193c65c5c0115c4c301210c214 (aaa y2) (sA _ _) (sA _ _) (aaa (cM 0x119010111 h2))) (λy2=>hH [_,_,_,_,_,_] [] 0x425c0193c15c5c0105c4c3010922110114 h2 (aaT y2) (sA _ _) (sA _ _))),ap,aaw (by exact aS 0x2012191c2110012 [_,_,_] rfl (Nat.sub_le _ _) (aaa (aS 0x119010111 [_,_] rfl h2))),aaw (by rw [aa7];exact h2),List.getElem?_reverse h2]
  ·rw [if_neg (λq=>h2 (by haveI:=q.2;exact mK 0x21120c10c111 q.2)),ap,aan (by exact aS 0x1010511 [_,_] rfl h2),aan (by rw [aa7];exact cM 0x1010511 h2),aa7]
section
theorem qR (an:sV (model prog w) A E s lt ok κ) {st:SortSt} (hk:kindOf st=κ) {i j:Nat} {x y:Keyed} (hx:(arrOf st)[i]? = some x) (hy:(arrOf st)[j]? = some y) (ox:ok x) (oy:ok y) {Q:Option Bool->SortSt->Prop} (h:Q (some (lt x y)) st) :
  wpS (model prog w) A E s (ltAt' i j) Q st:=by
 rw [ltAt'_eq]
 exact wpS_bind (wpS_get (wpS_bind (bF hx (wpS_bind (bF hy (an.ask ox oy hk h))))))
structure mE (st st':SortSt):Prop where
 k:kindOf st'=kindOf st
 p:pendingOf st'=pendingOf st
 f:failedOf st'=failedOf st
theorem mE.refl (st:SortSt):mE st st:=⟨rfl,rfl,rfl⟩
theorem mE.arr {st st':SortSt} (h:mE st st') (a:Array Keyed):mE st (setArr st' a):=⟨h.k,h.p,h.f⟩
theorem BO (an:sV (model prog w) A E s lt ok κ) {st:SortSt} (hk:kindOf st=κ) {P u R:List Keyed} {okn:Nat} (he:(arrOf st).toList=P++(u++R)) (ou:∀x∈u,ok x) (h1:1<=okn) (hokn:okn<=u.length) (hs:(u.take okn).Pairwise (Le lt)) {Q:Bool->SortSt->Prop}
  (hQ:∀c st',mE st st'->(arrOf st').toList=P++(c++R)->rV lt u c->Q true st'):wpS (model prog w) A E s (binarySort' P.length u.length okn) Q st:=by
 rw [binarySort'_eq]
 refine wpS_bind (wpS_forRange (I:=λk c st'=>c.1=none/\mE st st'/\ ∃d,(arrOf st').toList=P++((d++u.drop k)++R)/\d.length=k/\rV lt (u.take k) d) ?step ?gv ⟨rfl,mE.refl _,u.take (max okn 1),?_,?_,?_⟩)
 case gv =>
  rintro c st' ⟨hc,S,d,e,hd,hm⟩
  obtain ⟨c1,c2⟩:=c
  cases hc
  rw [Nat.max_eq_left h1,Nat.max_eq_right hokn] at hd hm e
  rw [List.drop_eq_nil_of_le (aaD _),List.append_nil] at e
  rw [List.take_of_length_le (aaD _)] at hm
  exact wpS_pure (hQ d st' S e hm)
 case step =>
  rintro k c st' hk1 hk2 ⟨hc,S,d,e,hd,hm⟩
  obtain ⟨c1,c2⟩:=c
  cases hc
  obtain ⟨x,t,ex⟩:∃x t,u.drop k=x::t:=⟨u[k],u.drop (k+1),List.drop_eq_getElem_cons hk2⟩
  haveI et:u.drop (k+1)=t:=by rw [List.drop_eq_getElem_cons hk2] at ex;exact (List.cons.inj ex).2
  have xu:u[k]? = some x:=by rw [List.drop_eq_getElem_cons hk2] at ex;rw [aak hk2,(List.cons.inj ex).1]
  haveI ox:ok x:=ou x (aaN xu)
  haveI od:∀y∈d,ok y:=λy hy=>ou y (List.mem_of_mem_take (hm.2.mem_iff.mp hy))
  rw [ex] at e
  have e':(arrOf st').toList=P++(d++(x::(t++R))):=by rw [e,aae];rfl
  have kk:kindOf st'=κ:=by rw [S.k,hk]
  have hx:(arrOf st')[P.length+k]? = some x:=by
   rw [<- aaz,e',aan (aaJ _ _),aaA,aan (by exact aS 0x10010211 [_,_] rfl hd),hd,Nat.sub_self];rfl
  dsimp only
  refine wpS_bind (wpS_mono (wpS_forRange (I:=λi c st''=>st''=st'/\ ∃l r,c=(none,l,r)/\l<=r/\r<=k/\r-l<=k-i/\(∀y∈d.take l,Le lt y x)/\(∀y∈d.drop r,lt x y=true))
   (Q:=λc st''=>st''=st'/\ ∃l r,c=(none,l,r)/\l<=k/\(∀y∈d.take l,Le lt y x)/\(∀y∈d.drop l,lt x y=true)) ?istep ?ifin ?iinit) ?ipost)
  case iinit=>exact ⟨rfl,0,k,rfl,by exact aS 0x900 [_] rfl,by exact aS 0x0 [_] rfl,by exact aS 0x0 [_] rfl,λy hy=>by (rw [List.take_zero] at hy;cases hy),λy hy=>by (rw [List.drop_eq_nil_of_le (by exact aS 0x10010211 [_,_] rfl hd)] at hy;cases hy)⟩
  case ifin =>
   rintro c st'' ⟨rfl,l,r,rfl,hlr,hrk,hm',hlo,hhi⟩
   haveI:l=r:=aaf hlr (Nat.le_of_sub_eq_zero (Nat.le_zero.mp (by rw [Nat.zero_max,Nat.sub_self] at hm';exact hm')))
   subst this
   exact ⟨rfl,l,l,rfl,hrk,hlo,hhi⟩
  case istep =>
   rintro i c st'' _ hik ⟨rfl,l,r,rfl,hlr,hrk,hm',hlo,hhi⟩
   dsimp only
   by_cases hge:l>=r
   ·rw [if_pos hge]
    have:l=r:=aaf (hlr) (hge)
    subst this
    exact wpS_pure ⟨rfl,l,l,rfl,hrk,hlo,hhi⟩
   ·rw [if_neg hge]
    have hb2:=Jk hge
    have hb3:=JT hge hm'
    have hml:(l+r)/2<d.length:=vS 0x312193c01120110313 hd hrk hb2.2
    have hy:d[(l+r)/2]? = some d[(l+r)/2]:=aak hml
    refine bz (d[(l+r)/2]) λy ey=> ?_
    rw [ey] at hy
    haveI hy':(arrOf st'')[P.length+(l+r)/2]? = some y:=by rw [u6 e' (hml),hy]
    refine wpS_bind (qR an kk hx hy' ox (od y (aaN hy)) ?_)
    dsimp only
    by_cases hless:lt x y=true
    ·rw [if_pos hless]
     refine wpS_pure ⟨rfl,l,(l+r)/2,rfl,hb2.1,aS 0x120021110212 [_,_,_] rfl hd hml,hb3.1,hlo,λz hz=> ?_⟩
     obtain ⟨j,hj,hj2,ej⟩:=jI hz
     rcases Aj hm.1 hj hy ej with h | h
     ·subst h;rw [hy] at ej;cases ej;exact hless
     ·cases q:lt x z with
      | true=>rfl
      | false=>haveI:=an.lin.ntr q h;rw [hless] at this;cases this
    ·rw [if_neg hless]
     refine wpS_pure ⟨rfl,(l+r)/2+1,r,rfl,hb2.2,hrk,hb3.2,λz hz=> ?_,hhi⟩
     obtain ⟨j,hj,ej⟩:=ni hz
     have hless':Le lt y x:=by cases q:lt x y with
      | true=>exact absurd q hless
      | false=>exact q
     rcases Aj hm.1 (Nat.le_of_lt_succ hj) ej hy with h | h
     ·subst h;rw [hy] at ej;cases ej;exact hless'
     ·exact an.lin.trans h hless'
  case ipost =>
   rintro c st'' ⟨rfl,l,r,rfl,hlk,hlo,hhi⟩
   dsimp only
   rw [moveDown'_eq]
   have ed:d.take l++d.drop l=d:=aaU l d
   haveI hb:=Ej (arr:=arrOf st'') (P:=P) (s:=d.take l) (t:=d.drop l) (x:=x) (R:=t++R) (by rw [ed];exact e')
   rw [ed,hd,List.length_drop,hd] at hb
   refine wpS_bind (wpS_modify (wpS_pure ⟨rfl,S.arr _,d.take l++x::d.drop l,?_,?_,?_⟩))
   ·show (bubble (arrOf st'') (P.length+k) (P.length+k-(P.length+l))).toList=_
    rw [Nat.add_sub_add_left,hb,et,aae (d.take l++x::d.drop l)]
   ·rw [aad,aav,List.length_take,List.length_drop,Nat.min_eq_left (by exact mK 0x20120110312 hd hlk),hd,<- Nat.add_assoc,Nat.add_sub_cancel' hlk]
   ·refine ⟨?_,?_⟩
    ·haveI p:=hm.1
     rw [<- ed] at p
     obtain ⟨p1,p2,p3⟩:=aar.mp p
     refine aar.mpr ⟨p1,aaM.mpr ⟨λy hy=>an.lin.of_lt (hhi y hy),p2⟩,λa ha b hb=> ?_⟩
     rcases aal.mp hb with h | h
     ·rw [h];exact hlo a ha
     ·exact p3 a ha b h
    ·haveI q:u.take (k+1)=u.take k++[x]:=by rw [List.take_add_one,xu];rfl
     rw [q]
     refine List.perm_middle.trans ?_
     rw [ed]
     exact (List.perm_append_singleton x d).symm.trans (hm.2.append_right [x])
 all_goals rw [Nat.max_eq_left h1]
 ·rw [aaU];exact he
 ·rw [List.length_take];exact Nat.min_eq_left hokn
 ·exact ⟨hs,.refl _⟩
end
open PySem PyProof.Rows
section
noncomputable def Ef (lo a nrem:Nat):StateT SortSt Sem AscSt :=
 forIn [a:nrem] ((none,a):AscSt) λ_ __s=>do
  let __x <- ltAt' (lo+__s.snd) (lo+__s.snd-1)
  match __x with
  | some smaller=>if smaller=true then pure (ForInStep.done (none,__s.snd)) else pure (ForInStep.yield (none,__s.snd+1))
  | _=>pure (ForInStep.done (some none,__s.snd))
theorem CF (r:Keyed->Keyed->Prop) (tr:∀ {a b c:Keyed},r a b->r b c->r a c) {W:List Keyed} {a b:Keyed} (h:(W++[a]).Pairwise r) (hab:r a b):(W++[a]++[b]).Pairwise r:=by
 refine aar.mpr ⟨h,aa8 _ _,λx hx y hy=> ?_⟩
 rw [aaj.mp hy]
 rcases aao.mp hx with hx | hx
 ·exact tr ((aar.mp h).2.2 x hx a (.head _)) hab
 ·rw [aaj.mp hx];exact hab
theorem uy {l:List Keyed} (h:1<=l.length):∃l' a,l=l'++[a]:=⟨l.dropLast,l.getLast (by intro q;rw [q] at h;cases h),(List.dropLast_concat_getLast _).symm⟩
theorem qX {arr:Array Keyed} {l1 l2:List Keyed} {x:Keyed} (e:arr.toList=l1++x::l2) {i:Nat} (hi:i=l1.length):arr[i]? = some x:=by
 rw [<- aaz,e,hi,aan (aaD _),Nat.sub_self];rfl
theorem AE (an:sV (model prog w) A E s lt ok κ) {st:SortSt} (hk:kindOf st=κ) {P D T:List Keyed} (he:(arrOf st).toList=P++(D++T)) (od:∀x∈D++T,ok x) (h1:1<=D.length) (hs:D.Pairwise (Le lt)) {Q:AscSt->SortSt->Prop}
  (hQ:∀D' T',D++T=D'++T'->1<=D'.length->D'.Pairwise (Le lt)->(T'=[]\/ ∃D0 a b T0,D'=D0++[a]/\T'=b::T0/\lt b a=true)->Q (none,D'.length) st):wpS (model prog w) A E s (Ef P.length D.length (D++T).length) Q st:=by
 unfold Ef
 refine wpS_forRange (I:=λx c st'=>st'=st/\c=(none,x)/\ ∃D' T',D++T=D'++T'/\D'.length=x/\1<=x/\D'.Pairwise (Le lt)) ?step ?gv ⟨rfl,rfl,D,T,rfl,rfl,h1,hs⟩
 case gv =>
  rintro c st' ⟨rfl,rfl,D',T',e,hd,h1,hs'⟩
  haveI h1':1<=D'.length:=aS 0x1901190110312 [_,_] rfl hd h1
  rw [<- hd]
  haveI hl:D.length<=(D++T).length:=by rw [aad];exact aS 0x10c000 [_,_] rfl
  rw [Nat.max_eq_right hl,e,aad] at hd
  exact hQ D' T' e h1' hs' (.inl (List.eq_nil_of_length_eq_zero (aaf (aS 0x91010c0311 [_,_] rfl hd) (aS 0x900 [_] rfl))))
 case step =>
  rintro x c st' hx1 hx2 ⟨rfl,rfl,D',T',e,hd,h1,hs'⟩
  dsimp only
  obtain ⟨D0,a,rfl⟩:=uy (l:=D') (aS 0x1901190110312 [_,_] rfl hd h1)
  cases T' with
  | nil=>rw [e,List.append_nil] at hx2;exact (aS 0x9096012110112 [_,_] rfl hx2 hd).elim
  | cons b T' =>
   haveI e1:(arrOf st').toList=(P++D0)++a::(b::T'):=by rw [he,e];simp only [aae,aa3,List.nil_append]
   haveI e2:(arrOf st').toList=(P++(D0++[a]))++b::T':=by rw [he,e];simp only [aae,aa3,List.nil_append]
   rw [aad,aaV] at hd
   haveI oa:ok a:=od a (by rw [e];exact aaK _ (aau _ (.head _)))
   haveI ob:ok b:=od b (by rw [e];exact aau _ (.head _))
   refine wpS_bind (qR an hk (qX e2 (by simp only [aad,aaV];exact aaf (aS 0x190c2c12c01190c311 [_,_,_] rfl hd) (aS 0x12c190c2c01190c211 [_,_,_] rfl hd))) (qX e1 (by simp only [aad];exact aaf (aS 0x3c2013c192c211190c312 [_,_,_,_] rfl hd (aaa (aS 0x1c190019011 [_,_] rfl h1))) (aS 0x302c0193c12c011190c212 [_,_,_,_] rfl hd (sA _ _)))) ob oa ?_)
   dsimp only
   cases q:lt b a with
   | true =>
    rw [if_pos rfl]
    haveI:=hQ (D0++[a]) (b::T') e (by rw [aad,aaV];exact aS 0x190c1900 [_] rfl) hs' (.inr ⟨D0,a,b,T',rfl,rfl,q⟩)
    rw [aad,aaV,hd] at this
    exact wpS_pure this
   | false =>
    rw [if_neg aaW]
    exact wpS_pure ⟨rfl,rfl,D0++[a]++[b],T',by rw [e];simp only [aae,aa3,List.nil_append],by simp only [aad,aaV];exact aaf (aS 0x191c19190cc01190c211 [_,_] rfl hd) (aS 0x19190cc191c01190c311 [_,_] rfl hd),aS 0x190c1900 [_] rfl,CF (Le lt) an.lin.trans hs' q⟩
noncomputable def xy (lo n nrem:Nat):StateT SortSt Sem (Option Nat):=do
 reverseSlice' lo (lo+n)
 let __s <- Ef lo n nrem
 match __s.fst with
 | some r=>pure r
 | none=>pure (some __s.snd)
noncomputable def Ce (lo n nrem:Nat):StateT SortSt Sem DescSt :=
 forIn [n:nrem] ((none,n,0):DescSt) λ_ __s=>do
  let __x <- ltAt' (lo+__s.snd.fst) (lo+__s.snd.fst-1)
  match __x with
  | some smaller =>
   if smaller=true then
    if __s.snd.snd>0 then do
     reverseSlice' (lo+__s.snd.fst-(__s.snd.snd+1)) (lo+__s.snd.fst)
     pure (ForInStep.yield (none,__s.snd.fst+1,0))
    else pure (ForInStep.yield (none,__s.snd.fst+1,0))
   else do
    let __x <- ltAt' (lo+__s.snd.fst-1) (lo+__s.snd.fst)
    match __x with
    | some larger =>
     if larger=true then pure (ForInStep.done (none,__s.snd.fst,__s.snd.snd))
     else pure (ForInStep.yield (none,__s.snd.fst+1,__s.snd.snd+1))
    | _=>pure (ForInStep.done (some none,__s.snd.fst,__s.snd.snd))
  | _=>pure (ForInStep.done (some none,__s.snd.fst,__s.snd.snd))
noncomputable def zm (lo n nrem:Nat):StateT SortSt Sem (Option Nat):=do
 liftM (rule "list.sort.descending-run")
 let __s <- Ce lo (n+1) nrem
 match __s.fst with
 | some r=>pure r
 | none =>
  if __s.snd.snd>0 then do
   reverseSlice' (lo+__s.snd.fst-(__s.snd.snd+1)) (lo+__s.snd.fst)
   xy lo __s.snd.fst nrem
  else xy lo __s.snd.fst nrem
def Ge (lt:Keyed->Keyed->Bool) (x y:Keyed):Prop:=Le lt y x
theorem tW {st:SortSt} {P D R:List Keyed} {i j:Nat} (e:(arrOf st).toList=P++(D++R)) (hi:i=P.length) (hj:j=P.length+D.length) {Q:Unit->SortSt->Prop}
  (h:∀a:Array Keyed,a.toList=P++(D.reverse++R)->Q () (setArr st a)):wpS (model prog w) A E s (reverseSlice' i j) Q st:=by
 rw [reverseSlice'_eq,hi,hj]
 exact wpS_modify (h _ (EY e))
theorem DT (an:sV (model prog w) A E s lt ok κ) {st0 st:SortSt} (hk:kindOf st=κ) (S:mE st0 st) {P D T:List Keyed} (he:(arrOf st).toList=P++(D++T)) (od:∀x∈D++T,ok x) (h1:1<=D.length) (hs:D.Pairwise (Ge lt)) {Q:Option Nat->SortSt->Prop}
  (hQ:∀D' T' st',mE st0 st'->(arrOf st').toList=P++(D'++T')->(D'++T').Perm (D++T)->1<=D'.length->D'.Pairwise (Le lt)->Q (some D'.length) st'):wpS (model prog w) A E s (xy P.length D.length (D++T).length) Q st:=by
 unfold xy
 refine wpS_bind (tW he rfl rfl λa ha=> ?_)
 haveI hl:(D++T).length=(D.reverse++T).length:=by simp only [aad,aa7]
 have hp:(D.reverse++T).Perm (D++T):=(List.reverse_perm D).append_right T
 rw [hl,show D.length=D.reverse.length from aa7.symm]
 refine wpS_bind (AE an (st:=setArr st a) hk (D:=D.reverse) (T:=T) ha (λx hx=>od x (hp.mem_iff.mp hx)) (by rw [aa7];exact h1) (List.pairwise_reverse.mpr hs) λD' T' e h1 hs' _=> ?_)
 dsimp only
 exact wpS_pure (hQ D' T' _ (S.arr a) (by rw [<- e];exact ha) (by rw [<- e];exact hp) h1 hs')
structure DI (lt:Keyed->Keyed->Bool) (P W:List Keyed) (st st':SortSt) (D Z T:List Keyed):Prop where
 sim:mE st st'
 arr:(arrOf st').toList=P++(D++(Z++T))
 pos:1<=Z.length
 srt:(D++Z).Pairwise (Ge lt)
 eql:∀a∈Z,∀b∈Z,Le lt a b
 prm:(D++(Z++T)).Perm W
theorem DI.rev {P W D Z T:List Keyed} {st st':SortSt} (h:DI lt P W st st' D Z T) {a:Array Keyed} (ha:a.toList=(P++D)++(Z.reverse++T)):DI lt P W st (setArr st' a) D Z.reverse T:=by
 obtain ⟨s1,s2,s3⟩:=aar.mp h.srt
 refine ⟨h.sim.arr a,?_,?_,?_,?_,?_⟩
 ·show a.toList=_
  rw [ha,aae]
 ·rw [aa7];exact h.pos
 ·refine aar.mpr ⟨s1,?_,λx hx y hy=>s3 x hx y (aax.mp hy)⟩
  refine List.pairwise_of_forall_mem_list λx hx y hy=> ?_
  exact h.eql y (aax.mp hy) x (aax.mp hx)
 ·exact λa ha b hb=>h.eql a (aax.mp ha) b (aax.mp hb)
 ·exact (((List.reverse_perm Z).append_right T).append_left D).trans h.prm
theorem DR (an:sV (model prog w) A E s lt ok κ) {st0 st:SortSt} (hk:kindOf st0=κ) {P W D Z T:List Keyed} (oW:∀x∈W,ok x) (h0:DI lt P W st0 st D Z T) (hz:Z.length=1) {Q:DescSt->SortSt->Prop}
  (hQ:∀D' Z' T' st',DI lt P W st0 st' D' Z' T'->Q (none,D'.length+Z'.length,Z'.length-1) st'):wpS (model prog w) A E s (Ce P.length (D.length+1) W.length) Q st:=by
 unfold Ce
 refine wpS_forRange (I:=λx c st'=> ∃D' Z' T',DI lt P W st0 st' D' Z' T'/\D'.length+Z'.length=x/\c=(none,x,Z'.length-1)) ?step ?gv ⟨D,Z,T,h0,by rw [hz],by rw [hz]⟩
 case gv =>
  rintro c st' ⟨D',Z',T',h,hx,rfl⟩
  rw [<- hx]
  exact hQ D' Z' T' st' h
 case step =>
  rintro x c st' hx1 hx2 ⟨D',Z',T',h,hx,rfl⟩
  dsimp only
  have kk:kindOf st'=κ:=by rw [h.sim.k,hk]
  cases T' with
  | nil=>haveI:=h.prm.length_eq;simp only [aad,List.length_nil] at this;exact (aS 0x90961093c2c31032c2110113 [_,_,_,_] rfl hx2 hx this).elim
  | cons y T' =>
   obtain ⟨Z0,q,ez⟩:=uy h.pos
   have hzl:Z'.length=Z0.length+1:=by rw [ez,aad,aaV]
   haveI e1:(arrOf st').toList=(P++(D'++Z0))++q::(y::T'):=by rw [h.arr,ez];simp only [aae,aa3,List.nil_append]
   haveI e2:(arrOf st').toList=(P++(D'++Z'))++y::T':=by rw [h.arr];simp only [aae,aa3,List.nil_append]
   have qz:q∈Z':=by rw [ez];exact aau _ (.head _)
   have oq:ok q:=oW q (h.prm.mem_iff.mp (aau _ (aaK _ qz)))
   have oy:ok y:=oW y (h.prm.mem_iff.mp (aau _ (aau _ (.head _))))
   have a1:=qX e1 (i:=P.length+x-1) (by simp only [aad];exact aaf (aS 0x30c5c4025c194c21193c121210c313 [_,_,_,_,_,_] rfl hx hzl (aaa (aS 0x12c1901190c011 [_,_,_] rfl hx1))) (aS 0x530c4c0195c24c01193c131210c213 [_,_,_,_,_,_] rfl hx hzl (sA _ _)))
   have a2:=qX e2 (i:=P.length+x) (by simp only [aad];exact aaf (aS 0x10c3c23c0210c311 [_,_,_,_] rfl hx) (aS 0x23c10c3c0210c211 [_,_,_,_] rfl hx))
   -- one further,strictly below
   have nxt:∀ {st2 D2 Z2},DI lt P W st0 st2 D2 Z2 (y::T')->D2.length+Z2.length=x->(∀z∈Z2,z∈Z')->lt y q=true-> ∃D3 Z3 T3,DI lt P W st0 st2 D3 Z3 T3/\D3.length+Z3.length=x+1/\((none,x+1,0):DescSt)=(none,x+1,Z3.length-1):=λ{st2 D2 Z2} h2 hl hsub hlt=>by
    refine ⟨D2++Z2,[y],T',⟨h2.sim,by rw [h2.arr];simp only [aae,aa3,List.nil_append],aaD _,?_,?_,?_⟩,by simp only [aad,aaV];exact aaf (aS 0x192c1910cc0210c211 [_,_,_] rfl hl) (aS 0x1910cc192c0210c311 [_,_,_] rfl hl),rfl⟩
    ·refine aar.mpr ⟨h2.srt,aa8 _ _,λa ha b hb=> ?_⟩
     rw [aaj.mp hb]
     have lq:∀z∈Z2,Le lt y z:=λz hz=>an.lin.trans (an.lin.of_lt hlt) (h.eql q qz z (hsub z hz))
     rcases aao.mp ha with ha | ha
     ·obtain ⟨z,Z4,e4⟩:∃z Z4,Z2=z::Z4:=by
       cases Z2 with
       | nil=>haveI:=h2.pos;simp at this
       | cons a b=>exact ⟨a,b,rfl⟩
      have zz:z∈Z2:=by rw [e4];exact .head _
      exact an.lin.trans (lq z zz) ((aar.mp h2.srt).2.2 a ha z zz)
     ·exact lq a ha
    ·intro a ha b hb
     rw [aaj.mp ha,aaj.mp hb]
     cases q':lt y y with
     | false=>exact q'
     | true=>have:=an.lin.asym q';rw [q'] at this;cases this
    ·haveI:=h2.prm
     rw [aae]
     exact this
   refine wpS_bind (qR an kk a2 a1 oy oq ?_)
   dsimp only
   cases hl:lt y q with
   | true =>
    rw [if_pos rfl]
    by_cases hn:Z'.length-1>0
    ·rw [if_pos hn]
     haveI e3:(arrOf st').toList=(P++D')++(Z'++y::T'):=by rw [h.arr,aae]
     refine wpS_bind (tW e3 (by rw [aad];exact aaf ((Nat.le_total _ _).elim (λy2=>hH [_,_,_,_,_,_] [] 0x5c30194c10125c194c3c21210c313 hx (aaa y2) (sA _ _)) (λy2=>mK 0x21c00090211 (aaT y2))) (hH [_,_,_,_,_,_] [] 0x403c01195c21195c4c23c01210c213 hx (sA _ _) (aaa (cM 0x190191c0311 hzl)))) (by rw [aad];exact aaf (aS 0x103cc23c0210c311 [_,_,_,_] rfl hx) (aS 0x23c103cc0210c211 [_,_,_,_] rfl hx)) λa ha=> ?_)
     exact wpS_pure (nxt (h.rev ha) (by rw [aa7];exact hx) (λz hz=>aax.mp hz) hl)
    ·rw [if_neg hn]
     exact wpS_pure (nxt h hx (λz hz=>hz) hl)
   | false =>
    rw [if_neg aaW]
    refine wpS_bind (qR an kk a1 a2 oq oy ?_)
    dsimp only
    cases hg:lt q y with
    | true =>
     rw [if_pos rfl]
     haveI:=hQ D' Z' (y::T') st' h
     rw [hx] at this
     exact wpS_pure this
    | false =>
     rw [if_neg aaW]
     have yz:∀z∈Z',Le lt y z/\Le lt z y:=λz hz=>⟨an.lin.trans hg (h.eql q qz z hz),an.lin.trans (h.eql z hz q qz) hl⟩
     refine wpS_pure ⟨D',Z'++[y],T',⟨h.sim,by rw [h.arr];simp only [aae,aa3,List.nil_append],by rw [aad];exact aS 0x20c190191c0311 [_,_,_] rfl hzl,?_,?_,?_⟩,by rw [aad,aaV];exact aaf (aS 0x192c191c0c0210c211 [_,_,_] rfl hx) (aS 0x191c0c192c0210c311 [_,_,_] rfl hx),by rw [aad,aaV,hzl];rfl⟩
     ·rw [ez,<- aae D',<- aae D']
      haveI:=h.srt
      rw [ez,<- aae] at this
      exact CF (Ge lt) (λa b=>an.lin.trans b a) this hg
     ·intro a ha b hb
      rcases aao.mp ha with ha | ha<;>rcases aao.mp hb with hb | hb
      ·exact h.eql a ha b hb
      ·rw [aaj.mp hb];exact (yz a ha).2
      ·rw [aaj.mp ha];exact (yz b hb).1
      ·rw [aaj.mp ha,aaj.mp hb];exact an.lin.trans (yz q qz).1 (yz q qz).2
     ·rw [aae Z'];exact h.prm
theorem xH (an:sV (model prog w) A E s lt ok κ) {st0 st:SortSt} (hk:kindOf st0=κ) {P W D Z T:List Keyed} (oW:∀x∈W,ok x) (h0:DI lt P W st0 st D Z T) (hz:Z.length=1) {Q:Option Nat->SortSt->Prop}
  (hQ:∀D' T' st',mE st0 st'->(arrOf st').toList=P++(D'++T')->(D'++T').Perm W->1<=D'.length->D'.Pairwise (Le lt)->Q (some D'.length) st'):wpS (model prog w) A E s (zm P.length D.length W.length) Q st:=by
 unfold zm
 refine wpS_bind (wpS_lift (wpAny_rule ⟨rfl,?_⟩))
 refine wpS_bind (DR an hk oW h0 hz λD' Z' T' st' h=> ?_)
 dsimp only
 have go:∀ {st2 Z2},DI lt P W st0 st2 D' Z2 T'->Z2.length=Z'.length->wpS (model prog w) A E s (xy P.length (D'.length+Z'.length) W.length) Q st2:=λ{st2 Z2} h2 hl=>by
  have hp:(D'++Z2++T').Perm W:=by rw [aae];exact h2.prm
  rw [<- hp.length_eq,<- hl,<- aad]
  exact DT an (by rw [h2.sim.k,hk]) h2.sim (by rw [h2.arr,aae]) (λx hx=>oW x (hp.mem_iff.mp hx)) (by rw [aad];haveI:=h2.pos;exact aS 0x1c190019011 [_,_] rfl this) h2.srt λD3 T3 st3 S e p h1 hs=>hQ D3 T3 st3 S e (p.trans hp) h1 hs
 by_cases hn:Z'.length-1>0
 ·rw [if_pos hn]
  haveI e3:(arrOf st').toList=(P++D')++(Z'++T'):=by rw [h.arr,aae]
  refine wpS_bind (tW e3 (by rw [aad];exact aaf ((Nat.le_total _ _).elim (λy2=>Bx 0x32c00191c40143c2c191c0c212 (aaa y2) (sA _ _)) (λy2=>mK 0x21c00090211 (aaT y2))) ((Nat.le_total _ _).elim (λy2=>Bx 0x432c0190c4c13c2c011190c212 (aaa y2) (sA _ _)) (λy2=>Bx 0x421c0190c4c32c1c0109022009113 hn (aaT y2) (sA _ _)))) (by rw [aad];exact aaf (aS 0x210cc21c0c00 [_,_,_] rfl) (aS 0x21c0c210cc00 [_,_,_] rfl)) λa ha=> ?_)
  exact go (h.rev ha) aa7
 ·rw [if_neg hn]
  exact go h rfl
theorem De (lo nrem:Nat):countRun' lo nrem=(do
  let __s <- Ef lo 1 nrem
  match __s.fst with
  | some r=>pure r
  | none =>
   if (__s.snd==nrem)=true then pure (some __s.snd)
   else if __s.snd>1 then do
    let __x <- ltAt' lo (lo+__s.snd-1)
    match __x with
    | some rose=>if rose=true then pure (some __s.snd) else do
      reverseSlice' lo (lo+__s.snd)
      zm lo __s.snd nrem
    | _=>pure none
   else zm lo __s.snd nrem):=by
 rw [countRun'_eq]
 unfold zm xy Ce Ef
 simp only []
 congr 1
 funext __s
 obtain ⟨r,n⟩:=__s
 cases r with
 | some r=>rfl
 | none =>
  dsimp only
  split
  ·rfl
  ·split
   ·congr 1
    funext x
    cases x with
    | none=>rfl
    | some rose =>
     dsimp only
     split
     ·rfl
     ·congr 1
      funext _r
      congr 1;funext u;congr 1;congr 1;funext s2;obtain ⟨r2,n2,q2⟩:=s2
      cases r2 with
      | some r2=>rfl
      | none =>
       dsimp only
       split
       ·congr 1;funext v;congr 1;funext w;congr 1;funext s3;obtain ⟨r3,n3⟩:=s3;cases r3<;>rfl
       ·congr 1;funext w;congr 1;funext s3;obtain ⟨r3,n3⟩:=s3;cases r3<;>rfl
   ·congr 1;funext u;congr 1;congr 1;funext s2;obtain ⟨r2,n2,q2⟩:=s2
    cases r2 with
    | some r2=>rfl
    | none =>
     dsimp only
     split
     ·congr 1;funext v;congr 1;funext w;congr 1;funext s3;obtain ⟨r3,n3⟩:=s3;cases r3<;>rfl
     ·congr 1;funext w;congr 1;funext s3;obtain ⟨r3,n3⟩:=s3;cases r3<;>rfl
theorem DQ (an:sV (model prog w) A E s lt ok κ) {st:SortSt} (hk:kindOf st=κ) {P W:List Keyed} (he:(arrOf st).toList=P++W) (oW:∀x∈W,ok x) (h1:1<=W.length) {Q:Option Nat->SortSt->Prop}
  (hQ:∀D T st',mE st st'->(arrOf st').toList=P++(D++T)->(D++T).Perm W->1<=D.length->D.Pairwise (Le lt)->Q (some D.length) st'):wpS (model prog w) A E s (countRun' P.length W.length) Q st:=by
 rw [De]
 cases W with
 | nil=>cases h1
 | cons x T =>
 refine wpS_bind (AE an hk (D:=[x]) (T:=T) he oW (by simp) (aa8 _ _) λD' T' e h1 hs hb=> ?_)
 have e':x::T=D'++T':=e
 dsimp only
 rw [e'] at he oW
 have hQ':∀D T st',mE st st'->(arrOf st').toList=P++(D++T)->(D++T).Perm (D'++T')->1<=D.length->D.Pairwise (Le lt)->Q (some D.length) st':=λD T st' a b c d e=>hQ D T st' a b (by rw [e'];exact c) d e
 rw [e']
 by_cases hn:D'.length=(D'++T').length
 ·rw [if_pos (by rw [beq_iff_eq];exact hn)]
  exact wpS_pure (hQ' D' T' st (mE.refl _) he (.refl _) h1 hs)
 ·rw [if_neg (by rw [beq_iff_eq];exact hn)]
  rcases hb with hb | ⟨D0,a,b,T0,rfl,rfl,hlt⟩
  ·rw [hb,List.append_nil] at hn;exact absurd rfl hn
  ·have e1:(arrOf st).toList=(P++D0)++a::(b::T0):=by rw [he];simp only [aae,aa3,List.nil_append]
   haveI oa:ok a:=oW a (aaK _ (aau _ (.head _)))
   have ir:∀z,Le lt z z:=λz=>by
    cases q:lt z z with
    | false=>exact q
    | true=>have:=an.lin.asym q;rw [q] at this;cases this
   by_cases hn1:(D0++[a]).length>1
   ·rw [if_pos hn1]
    cases D0 with
    | nil=>simp at hn1
    | cons c D1 =>
     haveI oc:ok c:=oW c (aaK _ (.head _))
     refine wpS_bind (qR an hk (qX (l1:=P) (x:=c) (l2:=D1++[a]++b::T0) (by rw [he];simp only [aae,aa3,List.nil_append]) rfl) (qX e1 (by simp only [aad,aaV];exact aaf (aS 0x21c00192c1c190c211 [_,_,_] rfl (aaa (aS 0x191c0c1900 [_,_] rfl))) (aS 0x210c0192c191c0c011 [_,_,_] rfl (sA _ _)))) oc oa ?_)
     dsimp only
     cases hr:lt c a with
     | true=>exact wpS_pure (hQ' _ _ st (mE.refl _) he (.refl _) h1 hs)
     | false =>
      rw [if_neg aaW]
      have all:∀y∈c::D1++[a],Le lt y c/\Le lt a y:=λy hy=>by
       have p1:=(aar.mp hs).2.2
       haveI ya:Le lt y a:=by
        rcases aao.mp hy with h | h
        ·exact p1 y h a (.head _)
        ·rw [aaj.mp h];exact ir a
       haveI cy:Le lt c y:=by
        rcases aao.mp hy with h | h
        ·rcases aal.mp h with h | h
         ·rw [h];exact ir c
         ·rw [aa3] at hs
          exact (aaM.mp hs).1 y (aaK _ h)
        ·rw [aaj.mp h];exact p1 c (.head _) a (.head _)
       exact ⟨an.lin.trans ya hr,an.lin.trans hr cy⟩
      refine wpS_bind (tW he rfl rfl λarr ha=> ?_)
      haveI hp:((c::D1++[a]).reverse++([b]++T0)).Perm (c::D1++[a]++b::T0):=(List.reverse_perm _).append_right _
      haveI:=xH an (st0:=st) (st:=setArr st arr) hk (P:=P) (W:=c::D1++[a]++b::T0) (D:=(c::D1++[a]).reverse) (Z:=[b]) (T:=T0) oW
       ⟨(mE.refl st).arr arr,ha,aaD _,?_,λu hu v hv=>by rw [aaj.mp hu,aaj.mp hv];exact ir b,hp⟩ rfl hQ'
      ·rw [aa7] at this;exact this
      ·refine aar.mpr ⟨?_,aa8 _ _,λu hu v hv=> ?_⟩
       ·refine List.pairwise_of_forall_mem_list λu hu v hv=> ?_
        haveI u1:=all u (aax.mp hu)
        haveI v1:=all v (aax.mp hv)
        exact an.lin.trans (an.lin.trans v1.1 ((aar.mp hs).2.2 c (.head _) a (.head _))) u1.2
       ·rw [aaj.mp hv]
        exact an.lin.trans (an.lin.of_lt hlt) (all u (aax.mp hu)).2
   ·rw [if_neg hn1]
    cases D0 with
    | cons c D1=>simp at hn1
    | nil =>
     exact xH an (st0:=st) (st:=st) hk (P:=P) (W:=[]++[a]++b::T0) (D:=[a]) (Z:=[b]) (T:=T0) oW
      ⟨mE.refl st,he,aaD _,aaM.mpr ⟨λy hy=>by rw [aaj.mp hy];exact an.lin.of_lt hlt,aa8 _ _⟩,λu hu v hv=>by rw [aaj.mp hu,aaj.mp hv];exact ir b,.refl _⟩ rfl hQ'
end
open PySem PyProof.Rows
section
noncomputable def Pd (lt:Keyed->Keyed->Bool):List (Nat×Nat×Nat)->Nat->List Keyed->Prop
 | [],_,c=>c=[]
 | x::p,o,c=> ∃u c',c=u++c'/\x.1=o/\x.2.1=u.length/\1<=u.length/\u.Pairwise (Le lt)/\Pd lt p (o+u.length) c'
theorem BA:∀ {p1 p2:List (Nat×Nat×Nat)} {o:Nat} {c1 c2:List Keyed},Pd lt p1 o c1->Pd lt p2 (o+c1.length) c2->Pd lt (p1++p2) o (c1++c2)
 | [],p2,o,c1,c2,h1,h2=>by
  have h1:c1=[]:=h1
  rw [h1] at h2 ⊢;exact h2
 | x::p1,p2,o,c1,c2,⟨u,c',e,a,b,d,f,g⟩,h2=>by
  refine ⟨u,c'++c2,by rw [e,aae],a,b,d,f,BA g ?_⟩
  rw [e,aad,<- Nat.add_assoc] at h2;exact h2
theorem Ae:∀ {p1 p2:List (Nat×Nat×Nat)} {o:Nat} {c:List Keyed},Pd lt (p1++p2) o c-> ∃c1 c2,A3 (c=c1++c2) (Pd lt p1 o c1) (Pd lt p2 (o+c1.length) c2)
 | [],p2,o,c,h=>⟨[],c,rfl,rfl,h⟩
 | x::p1,p2,o,c,⟨u,c',e,a,b,d,f,g⟩=>by
  refine bP λY9 y9=> ?_
  obtain ⟨c1,c2,e1,g1,g2⟩:=Ae g
  refine y9 ?_
  refine ⟨u++c1,c2,by rw [e,e1,aae],⟨u,c1,rfl,a,b,d,f,g1⟩,?_⟩
  rw [aad,<- Nat.add_assoc];exact g2
theorem Fe {f:Nat×Nat×Nat->Nat×Nat×Nat} (hf:∀x,(f x).1=x.1/\(f x).2.1=x.2.1):∀ {p:List (Nat×Nat×Nat)} {i o:Nat} {c:List Keyed},Pd lt p o c->Pd lt (p.modify i f) o c
 | [],i,o,c,h=>by cases i<;>exact h
 | x::p,0,o,c,⟨u,c',e,a,b,d,k,g⟩=>⟨u,c',e,(hf x).1.trans a,(hf x).2.trans b,d,k,g⟩
 | x::p,i+1,o,c,⟨u,c',e,a,b,d,k,g⟩=>⟨u,c',e,a,b,d,k,Fe hf g⟩
theorem Fd:∀ {p:List (Nat×Nat×Nat)} {o:Nat} {c:List Keyed},Pd lt p o c->p.length<=c.length
 | [],_,_,_=>Nat.zero_le _
 | x::p,o,c,⟨u,c',e,_,_,d,_,g⟩=>by rw [e,aad,aav,Nat.add_comm];exact Nat.add_le_add d (Fd g)
structure SI (lt:Keyed->Keyed->Bool) (κ:SortKind) (W:List Keyed) (st:SortSt) (c r:List Keyed):Prop where
 k:kindOf st=κ
 f:failedOf st=none
 a:(arrOf st).toList=c++r
 m:(c++r).Perm W
 p:Pd lt (pendingOf st).toList 0 c
theorem FL {α:Type}:∀ {l:List α} {i:Nat},i+1<l.length-> ∃p1 x y p2,l=p1++x::y::p2/\p1.length=i
 | [],_,h=>absurd h (Nat.not_lt_zero _)
 | [_],_,h=>absurd (Nat.lt_of_succ_lt_succ h) (Nat.not_lt_zero _)
 | x::y::l,0,_=>⟨[],x,y,l,rfl,rfl⟩
 | x::y::l,i+1,h=>by
  refine bP λY9 y9=> ?_
  obtain ⟨p1,a,b,p2,e,f⟩:=FL (l:=y::l) (Nat.lt_of_succ_lt_succ h)
  refine y9 ?_
  exact ⟨x::p1,a,b,p2,by rw [e];rfl,by rw [aav,f]⟩
theorem CZ (an:sV (model prog w) A E s lt ok κ) {W c r:List Keyed} (oW:∀x∈W,ok x) {st:SortSt} (h:SI lt κ W st c r) {i:Nat} (hi:i+1<(pendingOf st).size) {Q:Bool->SortSt->Prop}
  (hQ:∀c' st',SI lt κ W st' c' r->c'.length=c.length->(pendingOf st').size+1=(pendingOf st).size->Q true st'):wpS (model prog w) A E s (mergeAt' i) Q st:=by
 haveI hl:i+1<(pendingOf st).toList.length:=hi
 refine bP λY9 y9=> ?_
 obtain ⟨p1,x,y,p2,ep,el⟩:=FL hl
 have hp:=h.p
 rw [ep] at hp
 obtain ⟨c1,_,rfl,g1,u,_,rfl,x1,x2,x3,x4,v,c2,rfl,y1,y2,y3,y4,g2⟩:=Ae hp
 obtain ⟨xa,xb,xc⟩:=x
 obtain ⟨ya,yb,yc⟩:=y
 refine y9 ?_
 rw [aa2] at x1 y1 g2
 haveI x1:xa=c1.length:=x1
 haveI x2:xb=u.length:=x2
 haveI y1:ya=c1.length+u.length:=y1
 haveI y2:yb=v.length:=y2
 subst x1 x2 y1 y2
 have oc:∀z∈c1++(u++(v++c2)),ok z:=λz hz=>oW z (h.m.mem_iff.mp (aaK _ hz))
 rw [<- el]
 refine AK an (P:=c1) (R:=c2++r) h.k h.f ep (by rw [h.a];simp only [aae]) x4 y4 (λz hz=>oc z (aau _ (aaK _ hz))) (λz hz=>oc z (aau _ (aau _ (aaK _ hz)))) x3 y3 λm st' k' f' p' a' hm=> ?_
 have hml:m.length=u.length+v.length:=by rw [hm.2.length_eq,aad]
 refine hQ (c1++(m++c2)) st' ⟨k',f',by rw [a'];simp only [aae],?_,?_⟩ ?_ ?_
 ·refine .trans ?_ h.m
  haveI:=((hm.2.append_right c2).append_left c1).append_right r
  simp only [aae] at this ⊢;exact this
 ·rw [p']
  refine BA g1 ⟨m,c2,rfl,(aa2 _).symm,hml.symm,by rw [hml];exact aam x3 (aaJ _ _),hm.1,?_⟩
  rw [hml,aa2,<- Nat.add_assoc];exact g2
 ·simp only [aad,hml,Nat.add_assoc]
 ·show (pendingOf st').toList.length+1=(pendingOf st).toList.length
  rw [p',ep];simp only [aad,aav];exact aaf (aS 0x19191cc0c19191c0cc00 [_,_] rfl) (aS 0x19191c0cc19191cc0c00 [_,_] rfl)
noncomputable def Fg (p:Array (Nat×Nat×Nat)):Nat :=
 if Option.any (λx=>decide (x<p[p.size-2+1]?.elim 0 (·.2.1))) (if p.size-2>0 then p[p.size-2-1]?.map (·.2.1) else none)=true then p.size-2-1 else p.size-2
theorem GE {p:Array (Nat×Nat×Nat)} (h:¬p.size<=1):Fg p+1<p.size:=by
 have h2:p.size-2+1<p.size:=aS 0x1190c11290c211 [_,_] rfl (aaa (aS 0x290190411 [_] rfl h))
 unfold Fg
 generalize Option.any _ _=b
 cases b with
 | true=>exact Nat.lt_of_le_of_lt (Nat.succ_le_succ (Nat.sub_le _ _)) h2
 | false=>exact h2
noncomputable def Ib (size:Nat):StateT SortSt Sem Unit:=do
 let c <- forIn [0:size] ((none,()):Option Unit×Unit) λ_ _=>do
  let s <- get
  if (pendingOf s).size<=1 then pure (.done (none,())) else do
   let b <- mergeAt' (Fg (pendingOf s))
   if (!b)=true then pure (.done (some (),())) else pure (.yield (none,()))
 match c.1 with
 | some r=>pure r
 | none=>pure ()
noncomputable def Jl (p:Array (Nat×Nat×Nat)) (pw:Nat):StateT SortSt Sem (ForInStep (Option Unit×Unit)) :=
 match (if p.size>1 then p[p.size-2]? else none) with
 | some (_,_,older)=>if older<=pw then pure (.done (none,())) else do
   let b <- mergeAt' (p.size-2)
   if (!b)=true then pure (.done (some (),())) else pure (.yield (none,()))
 | _=>pure (.done (none,()))
noncomputable def GM (lo n:Nat):StateT SortSt Sem (ForInStep (Option Unit×Nat)):=do
 modify λs=>setPending s ((pendingOf s).push (lo,n,0))
 pure (.yield (none,lo+n))
noncomputable def FD (pw:Nat) (x:Nat×Nat×Nat):Nat×Nat×Nat:=(x.1,x.2.1,pw)
noncomputable def HX (size lo n pw:Nat):StateT SortSt Sem (ForInStep (Option Unit×Nat)):=do
 let c <- forIn [0:size] ((none,()):Option Unit×Unit) λ_ _=>do
  let s <- get
  Jl (pendingOf s) pw
 match c.1 with
 | some r=>pure (.done (some r,lo))
 | none=>do
  modify λs=>setPending s ((pendingOf s).modify ((pendingOf s).size-1) (FD pw))
  GM lo n
noncomputable def CE (size lo n:Nat):StateT SortSt Sem (ForInStep (Option Unit×Nat)):=do
 let s <- get
 match (pendingOf s).back? with
 | some (s1,n1,_)=>HX size lo n (power' size (2*s1+n1) (2*s1+n1+n1+n) size)
 | _=>GM lo n
noncomputable def IK (size mr lo:Nat):StateT SortSt Sem (ForInStep (Option Unit×Nat)):=do
 let r <- countRun' lo (size-lo)
 match r with
 | some found =>
  if found<mr then do
   liftM (rule "list.sort.binary-insertion")
   let b <- binarySort' lo (min (size-lo) mr) found
   if (!b)=true then pure (.done (some (),lo)) else CE size lo (min (size-lo) mr)
  else CE size lo found
 | _=>pure (.done (some (),lo))
noncomputable def HB (size mr:Nat):StateT SortSt Sem Unit:=do
 let c <- forIn [0:size] ((none,0):Option Unit×Nat) λ_ c=>if c.2>=size then pure (.done (none,c.2)) else IK size mr c.2
 match c.1 with
 | some r=>pure r
 | none=>Ib size
theorem GP:sortRuns'=(do
  let s <- get
  HB (arrOf s).size (minRun' (arrOf s).size (arrOf s).size 0)):=by kernel_rfl
section
variable (an:sV (model prog w) A E s lt ok κ) {W:List Keyed} (oW:∀x∈W,ok x)
include an oW
theorem G1 {st:SortSt} {c:List Keyed} (h:SI lt κ W st c []) {Q:Unit->SortSt->Prop} (hQ:∀c st',failedOf st'=none->(arrOf st').toList=c->rV lt W c->Q () st'):wpS (model prog w) A E s (Ib W.length) Q st:=by
 have done:∀ {st'},(∃c,SI lt κ W st' c [])->(pendingOf st').size<=1->Q () st':=λ{st'} ⟨c,h⟩ hs=>by
  haveI hm:=h.m
  haveI ha:=h.a
  rw [List.append_nil] at hm ha
  refine hQ c st' h.f ha ⟨?_,hm⟩
  haveI hs:(pendingOf st').toList.length<=1:=hs
  haveI hp:=h.p
  generalize (pendingOf st').toList=p at hs hp
  match p,hs,hp with
  | [],_,hp=>rw [show c=[] from hp];exact .nil
  | [_],_,⟨u,_,e,_,_,_,g,rfl⟩=>rw [e,List.append_nil];exact g
 unfold Ib
 refine wpS_bind (wpS_forRange (I:=λx b st'=>b=(none,())/\ ∃c,SI lt κ W st' c []/\(pendingOf st').size+x<=W.length+1) ?step ?gv ⟨rfl,c,h,?init⟩)
 case init =>
  haveI:=Fd h.p
  haveI e:=h.m.length_eq
  rw [List.append_nil] at e
  rw [<- e,Nat.add_zero];exact Nat.le_succ_of_le this
 case gv =>
  rintro b st' ⟨rfl,c,h,hs⟩
  rw [Nat.max_eq_right (Nat.zero_le _),Nat.add_comm] at hs
  exact wpS_pure (done ⟨c,h⟩ (Nat.le_of_add_le_add_left hs))
 case step =>
  rintro x b st' _ hx ⟨rfl,c,h,hs⟩
  refine wpS_bind (wpS_get ?_)
  by_cases hp:(pendingOf st').size<=1
  ·exact fL hp (wpS_pure (wpS_pure (done ⟨c,h⟩ hp)))
  ·refine eG hp (wpS_bind (CZ an oW h (GE hp) λc' st2 h2 hl hs2=> ?_))
   refine eG aaW (wpS_pure ⟨rfl,c',h2,?_⟩)
   rw [<- Nat.add_assoc,Nat.add_right_comm,hs2];exact hs
theorem C4 {st:SortSt} {c u r:List Keyed} (h:SI lt κ W st c (u++r)) (h1:1<=u.length) (hu:u.Pairwise (Le lt)) {Q:ForInStep (Option Unit×Nat)->SortSt->Prop} (hQ:∀d st',SI lt κ W st' d r->d.length=c.length+u.length->Q (.yield (none,d.length)) st') :
  wpS (model prog w) A E s (GM c.length u.length) Q st:=by
 unfold GM
 refine wpS_bind (wpS_modify (wpS_pure ?_))
 have hl:(c++u).length=c.length+u.length:=aad
 rw [<- hl]
 refine hQ (c++u) _ ⟨h.k,h.f,?_,?_,?_⟩ hl
 ·show (arrOf st).toList=_
  rw [h.a,aae]
 ·rw [aae];exact h.m
 ·show Pd lt ((pendingOf st).push _).toList 0 _
  rw [Array.toList_push]
  exact BA h.p ⟨u,[],(List.append_nil u).symm,(aa2 _).symm,rfl,h1,hu,rfl⟩
theorem G0 {st:SortSt} {c u r:List Keyed} (h:SI lt κ W st c (u++r)) (h1:1<=u.length) (hu:u.Pairwise (Le lt)) {pw:Nat} {Q:ForInStep (Option Unit×Nat)->SortSt->Prop} (hQ:∀d st',SI lt κ W st' d r->d.length=c.length+u.length->Q (.yield (none,d.length)) st') :
  wpS (model prog w) A E s (HX W.length c.length u.length pw) Q st:=by
 unfold HX
 refine wpS_bind (wpS_mono (wpS_forRange (I:=λx b st'=>b=(none,())/\ ∃d,SI lt κ W st' d (u++r)/\d.length=c.length) (Q:=λb st'=>b=(none,())/\ ∃d,SI lt κ W st' d (u++r)/\d.length=c.length) ?step (λ_ _ h=>h) ⟨rfl,c,h,rfl⟩) ?post)
 case step =>
  rintro x b st' _ hx ⟨rfl,d,h,hl⟩
  refine wpS_bind (wpS_get ?_)
  unfold Jl
  by_cases hp:(pendingOf st').size>1
  ·rw [if_pos hp]
   obtain ⟨y,hy⟩:∃y,(pendingOf st')[(pendingOf st').size-2]? = some y:=⟨_,Array.getElem?_eq_getElem (Nat.sub_lt (Nat.lt_of_succ_lt hp) ∅)⟩
   rw [hy]
   obtain ⟨y1,y2,y3⟩:=y
   dsimp only
   by_cases hq:y3<=pw
   ·exact fL hq (wpS_pure ⟨rfl,d,h,hl⟩)
   ·refine eG hq (wpS_bind (CZ an oW h (aS 0x1190c11290c211 [_,_] rfl (aaa (aS 0x290019111 [_] rfl hp))) λc' st2 h2 hl2 hs2=> ?_))
    exact eG aaW (wpS_pure ⟨rfl,c',h2,hl2.trans hl⟩)
  ·rw [if_neg hp]
   exact wpS_pure ⟨rfl,d,h,hl⟩
 case post =>
  rintro b st' ⟨rfl,d,h,hl⟩
  refine wpS_bind (wpS_modify ?_)
  rw [<- hl]
  refine C4 an oW (st:=setPending st' ((pendingOf st').modify ((pendingOf st').size-1) (FD pw))) ⟨h.k,h.f,h.a,h.m,?_⟩ h1 hu λd' st2 h2 hl2=>hQ d' st2 h2 (by rw [hl2,hl])
  show Pd lt ((pendingOf st').modify _ _).toList 0 _
  rw [Array.toList_modify]
  exact Fe (f:=FD pw) (λ_=>⟨rfl,rfl⟩) h.p
theorem AN {st:SortSt} {c u r:List Keyed} (h:SI lt κ W st c (u++r)) (h1:1<=u.length) (hu:u.Pairwise (Le lt)) {Q:ForInStep (Option Unit×Nat)->SortSt->Prop} (hQ:∀d st',SI lt κ W st' d r->d.length=c.length+u.length->Q (.yield (none,d.length)) st') :
  wpS (model prog w) A E s (CE W.length c.length u.length) Q st:=by
 unfold CE
 refine wpS_bind (wpS_get ?_)
 cases (pendingOf st).back? with
 | none=>exact C4 an oW h h1 hu hQ
 | some y=>exact G0 an oW h h1 hu hQ
theorem F4 {st:SortSt} {c r:List Keyed} {mr:Nat} (h:SI lt κ W st c r) (hr:¬c.length>=W.length) {Q:ForInStep (Option Unit×Nat)->SortSt->Prop} (hQ:∀d r' st',SI lt κ W st' d r'->c.length<d.length->Q (.yield (none,d.length)) st') :
  wpS (model prog w) A E s (IK W.length mr c.length) Q st:=by
 have hl:=h.m.length_eq
 rw [aad] at hl
 haveI hl2:W.length-c.length=r.length:=by rw [<- hl,aaA]
 haveI hr1:1<=r.length:=aS 0x2190021c3110412 [_,_,_] rfl hr hl
 have or:∀x∈r,ok x:=λx hx=>oW x (h.m.mem_iff.mp (aau _ hx))
 unfold IK
 rw [hl2]
 refine wpS_bind (DQ an h.k h.a or hr1 λD T st' S ha hp h1 hs=> ?_)
 have hp':(c++(D++T)).Perm W:=(hp.append_left c).trans h.m
 have I:SI lt κ W st' c (D++T):=⟨by rw [S.k];exact h.k,by rw [S.f];exact h.f,ha,hp',by rw [S.p];exact h.p⟩
 dsimp only
 by_cases hm:D.length<mr
 ·refine fL hm (wpS_bind (wpS_lift (wpAny_rule ⟨rfl,?_⟩)))
  have hrl:r.length=(D++T).length:=hp.length_eq.symm
  have hu:((D++T).take (min r.length mr)).length=min r.length mr:=by rw [List.length_take,<- hrl];exact Nat.min_eq_left (Nat.min_le_left _ _)
  have hD:D.length<=min r.length mr:=Nat.le_min.mpr ⟨by rw [hrl,aad];exact aaJ _ _,Nat.le_of_lt hm⟩
  haveI htk:((D++T).take (min r.length mr)).take D.length=D:=by rw [List.take_take,Nat.min_eq_left hD,List.take_left]
  have htd:=aaU (min r.length mr) (D++T)
  generalize (D++T).take (min r.length mr)=u at hu htk htd
  generalize (D++T).drop (min r.length mr)=R at htd
  rw [<- htd] at ha hp' hp
  rw [<- hu]
  refine wpS_bind (BO an I.k (P:=c) (u:=u) (R:=R) ha (λx hx=>or x (hp.mem_iff.mp (aaK _ hx))) h1 (by rw [hu];exact hD) (by rw [htk];exact hs) λm st2 S2 ha2 hm2=> ?_)
  refine eG aaW ?_
  rw [<- hm2.2.length_eq]
  have h1m:1<=m.length:=by rw [hm2.2.length_eq,hu];exact aam h1 hD
  refine AN an oW ⟨by rw [S2.k];exact I.k,by rw [S2.f];exact I.f,ha2,((hm2.2.append_right R).append_left c).trans hp',by rw [S2.p];exact I.p⟩ h1m hm2.1 λd st3 h3 hl3=>hQ d _ st3 h3 ?_
  rw [hl3];exact Nat.lt_add_of_pos_right h1m
 ·refine eG hm (AN an oW I h1 hs λd st3 h3 hl3=>hQ d _ st3 h3 ?_)
  rw [hl3];exact Nat.lt_add_of_pos_right h1
theorem F5 {st:SortSt} (hk:kindOf st=κ) (hf:failedOf st=none) (hp:pendingOf st = #[]) (ha:(arrOf st).toList=W) {Q:Unit->SortSt->Prop}
  (hQ:∀c st',failedOf st'=none->(arrOf st').toList=c->rV lt W c->Q () st'):wpS (model prog w) A E s sortRuns' Q st:=by
 have done:∀ {st' d r},SI lt κ W st' d r->W.length<=d.length->SI lt κ W st' d []:=λ{st' d r} h hl=>by
  haveI:=h.m.length_eq
  rw [aad] at this
  haveI:r=[]:=List.eq_nil_of_length_eq_zero (aaf (aS 0x920021c2110012 [_,_,_] rfl hl this) (aS 0x900 [_] rfl))
  rw [this] at h;exact h
 rw [GP]
 refine wpS_bind (wpS_get ?_)
 haveI hsz:(arrOf st).size=W.length:=by rw [<- ha];rfl
 rw [hsz]
 unfold HB
 refine wpS_bind (wpS_mono (wpS_forRange (I:=λx b st'=> ∃d r,b=(none,d.length)/\SI lt κ W st' d r/\x<=d.length) (Q:=λb st'=>b.1=none/\ ∃d,SI lt κ W st' d []) ?step ?gv ⟨[],W,rfl,⟨hk,hf,ha,.refl _,by rw [hp];rfl⟩,Nat.zero_le _⟩) ?post)
 case post =>
  rintro ⟨b1,b2⟩ st' ⟨hc,d,h⟩
  cases hc
  exact G1 an oW h hQ
 case gv =>
  rintro _ st' ⟨d,r,rfl,h,hx⟩
  rw [Nat.max_eq_right (Nat.zero_le _)] at hx
  exact ⟨rfl,d,done h hx⟩
 case step =>
  rintro x _ st' hx1 hx2 ⟨d,r,rfl,h,hx⟩
  by_cases hr:d.length>=W.length
  ·exact fL hr (wpS_pure ⟨rfl,d,done h hr⟩)
  ·exact eG hr (F4 an oW h hr λd' r' st2 h2 hl=>⟨d',r',rfl,h2,Nat.lt_of_le_of_lt hx hl⟩)
end
end
end
theorem DS {A:Around} {E:Value->Shared->Prop} {s:Shared} {lt:Keyed->Keyed->Bool} {ok:Keyed->Prop} {κ:SortKind} (an:sV G.M A E s lt ok κ) {W:List Keyed} (oW:∀x∈W,ok x) {st:SortSt} (hk:kindOf st=κ) (hf:failedOf st=none) (hp:pendingOf st = #[]) (ha:(arrOf st).toList=W) {Q:Unit->SortSt->Prop}
  (hQ:∀c st',failedOf st'=none->(arrOf st').toList=c->rV lt W c->Q () st'):wpS G.M A E s sortRuns' Q st :=
 (Classical.byContradiction λn=> @Classical.epsilon_spec TT (λt=> ¬t.Goal) ⟨⟨A,E,s,lt,ok,κ⟩,n⟩ λan W oW st hk hf hp ha Q hQ=>F5 an oW hk hf hp ha hQ:TT.Goal ⟨A,E,s,lt,ok,κ⟩) an W oW st hk hf hp ha Q hQ
mutual
noncomputable def aT (ι:List Addr) (h:Heap):V->Value->Prop
 | .none,cv=>cv= .none
 | .bool b,cv=>cv= .bool b
 | .int i,cv=> ∃t,cv= .int i t
 | .str x,cv=> ∃t,cv= .str (Str.ofString x) t
 | .ref i,cv=> ∃a,ι[i]? = some a/\cv= .ref a
 | .inst c i,cv=> ∃a x C o,ι[i]? = some a/\G.cls c=some C/\cv= .ref x/\h.get? x=some o/\o.cls= .ref C/\o.dict=some a/\o.data= .plain
 | .exc c,cv=> ∃x C o,G.xcl c=some C/\cv= .ref x/\h.get? x=some o/\o.cls= .ref C/\ ∃vs,o.data= .fields vs
 | .scr,cv=>cv= .ref G.sa
 | .tup xs,cv=> ∃a vs,cv= .ref a/\IsTup h a vs.toArray/\aX ι h xs vs
noncomputable def aX (ι:List Addr) (h:Heap):List V->List Value->Prop
 | [],vs=>vs=[]
 | x::xs,vs=> ∃v vs',vs=v::vs'/\aT ι h x v/\aX ι h xs vs'
end
noncomputable def kf (ι:List Addr) (h:Heap):List (Int×V)->List (Int×Value)->Prop
 | [],vs=>vs=[]
 | x::xs,vs=> ∃v vs',vs=(x.1,v)::vs'/\aT ι h x.2 v/\kf ι h xs vs'
noncomputable def qU (ι:List Addr) (h:Heap):List (String×V)->List DictEntry->Prop
 | [],es=>es=[]
 | x::xs,es=> ∃t v es',es=⟨PyData.keyHash G.w.params (Str.ofString x.1),.str (Str.ofString x.1) t,v⟩::es'/\aT ι h x.2 v/\qU ι h xs es'
noncomputable def pV (ι:List Addr) (h:Heap) (a:Addr):O->Prop
 | .list xs=> ∃vs:List Value,h.PlainList a vs.toArray/\aX ι h xs vs
 | .dict es=> ∃kvs,h.DictOf (intKind G.prog G.w) a kvs/\kf ι h es kvs
 | .flds fs=> ∃es n,h.get? a=some (dictOf es n)/\qU ι h fs es
structure eX (ι:List Addr) (H:Hp) (h:Heap):Prop where
 keep:G.hB.StaysIn h
 len:ι.length=H.length
 nodup:ι.Nodup
 fresh:∀a∈ι,G.hB.get? a=none
 obj:∀(i:Nat) (a:Addr) (o:O),ι[i]? = some a->H[i]? = some o->pV ι h a o
noncomputable def own (env:Env):List Addr:=env.locals::env.cells.map (·.2)
structure kg (env:Env) (l:bw) (ι:List Addr) (hv hl:Heap):Prop where
 kind:env.scope.kind= .function
 glob:env.globals=mainGlobals
 blt:env.builtins=builtinsNs
 loc:∃m,hl.Ns env.locals m/\ ∀x v,l x=some v->env.kindOf (Str.ofString x)=some .local-> ∃cv,m (Str.ofString x)=some cv/\aT ι hv v cv
 cel:∀x v,l x=some v->(env.kindOf (Str.ofString x)=some .cell\/env.kindOf (Str.ofString x)=some .free) ->
  ∃c o cv,env.cells.lookup (Str.ofString x)=some c/\hv.get? c=some o/\o.data= .cell (some cv)/\aT ι hv v cv
 cells:∀p∈env.cells,∃o ov,hv.get? p.2=some o/\o.data= .cell ov
 ndup:(env.cells.map (·.2)).Nodup
 dis:∀a∈own env,a∉ι
 fresh:∀a∈own env,G.hB.get? a=none
def DZ (o:Obj):Prop:=(∃n,o.cls= .type n/\n ≠ "tuple")\/(∃es n,o.data= .dict es n)\/ ∃v,o.data= .cell v
def AT (h h':Heap):Prop:= ∀a o,h.get? a=some o-> ∃o',h'.get? a=some o'
theorem AT.refl (h:Heap):AT h h:=λ_ o e=>⟨o,e⟩
theorem AT.trans {h h' h'':Heap} (x:AT h h') (y:AT h' h''):AT h h'':=λa o e=>let ⟨o',e'⟩:=x a o e;y a o' e'
theorem AT.of_stays {h h':Heap} (k:h.StaysIn h'):AT h h':=λ_ o e=>⟨o,k _ o e⟩
structure Kp (W fr:List Addr) (h h':Heap):Prop where
 size:AT h h'
 up:∀a o,h.get? a=some o->a∉W-> ∃sl,h'.get? a=some { o with slots:=sl }
 ex:∀a o,h.get? a=some o->a∉W->a∉fr->h'.get? a=some o
def oG (h h':Heap):Prop:= ∀a o,h.get? a=some o-> ¬DZ o-> ∃sl,h'.get? a=some { o with slots:=sl }
noncomputable def lB (A:Around):List Addr:=(A.frames.getD []).filterMap (·.frame)
theorem oG.refl (h:Heap):oG h h:=λ_ o e _=>⟨o.slots,e⟩
theorem oG.of_stays {h h':Heap} (k:h.StaysIn h'):oG h h':=λ_ o e _=>⟨o.slots,k _ o e⟩
def sY (A:Around) (h:Heap):Prop:= ∀v,A.handled=some v-> ∃e o C vs,v= .ref e/\h.get? e=some o/\o.cls= .ref C/\o.data= .fields vs/\vs[2]? = some .none
theorem sY.imm {A:Around} {h h':Heap} (x:sY A h) (k:oG h h'):sY A h':=λv hv=>by
 refine bP λY9 y9=> ?_
 obtain ⟨e,o,C,vs,h1,h2,h3,h4,h5⟩:=x v hv
 obtain ⟨sl,e1⟩:=k e o h2 λm=>by
  rcases m with ⟨n,q,_⟩ | ⟨es,n,q⟩ | ⟨w,q⟩
  ·rw [h3] at q;cases q
  ·rw [h4] at q;cases q
  ·rw [h4] at q;cases q
 refine y9 ?_
 exact ⟨e,_,C,vs,h1,e1,h3,h4,h5⟩
section
variable {ι ι':List Addr} {h h':Heap}
theorem getElem?_prefix {α:Type} {l l':List α} (p:l<+:l') {i:Nat} {a:α} (e:l[i]? = some a):l'[i]? = some a:=by
 obtain ⟨t,rfl⟩:=p
 rw [aaw (aab.mp e).1];exact e
theorem yn {o:Obj} {C:Value} (e:o.cls=C) (h1:∀n,C= .type n->n = "tuple") (h2:(∀es n,o.data≠ .dict es n)/\ ∀v,o.data≠ .cell v):¬DZ o:=λm =>
 m.elim (λ⟨n,q,q2⟩=>q2 (h1 n (e.symm.trans q))) λm=>m.elim (λ⟨es,n,q⟩=>h2.1 es n q) λ⟨v,q⟩=>h2.2 v q
mutual
theorem aT.mono (p:ι<+:ι') (k:oG h h'):∀ {v:V} {cv:Value},aT ι h v cv->aT ι' h' v cv
 | .none,_,x=>x
 | .bool _,_,x=>x
 | .int _,_,x=>x
 | .str _,_,x=>x
 | .scr,_,x=>x
 | .ref _,_,x=>by obtain ⟨a,e,q⟩:=x;exact ⟨a,getElem?_prefix p e,q⟩
 | .inst _ _,_,x=>by
  refine bP λY9 y9=> ?_
  obtain ⟨a,x,C,o,e,hc,q,ho,oc,od,oda⟩:=x
  obtain ⟨sl,hs⟩:=k x o ho (yn oc (λ_ h=>(nomatch h)) ⟨λ_ _ h=>(nomatch oda.symm.trans h),λ_ h=>(nomatch oda.symm.trans h)⟩)
  refine y9 ?_
  exact ⟨a,x,C,_,getElem?_prefix p e,hc,q,hs,oc,od,oda⟩
 | .exc _,_,x=>by
  refine bP λY9 y9=> ?_
  obtain ⟨x,C,o,hc,q,ho,oc,vs,od⟩:=x
  obtain ⟨sl,hs⟩:=k x o ho (yn oc (λ_ h=>(nomatch h)) ⟨λ_ _ h=>(nomatch od.symm.trans h),λ_ h=>(nomatch od.symm.trans h)⟩)
  refine y9 ?_
  exact ⟨x,C,_,hc,q,hs,oc,vs,od⟩
 | .tup _,_,x=>by
  refine bP λY9 y9=> ?_
  obtain ⟨a,vs,q,⟨o,ho,oc,n,od⟩,hs⟩:=x
  obtain ⟨sl,h2⟩:=k a o ho (yn oc (λ_ h=>(Value.type.inj h).symm) ⟨λ_ _ h=>(nomatch od.symm.trans h),λ_ h=>(nomatch od.symm.trans h)⟩)
  refine y9 ?_
  exact ⟨a,vs,q,⟨_,h2,oc,n,od⟩,aX.mono p k hs⟩
theorem aX.mono (p:ι<+:ι') (k:oG h h'):∀ {vs:List V} {cvs:List Value},aX ι h vs cvs->aX ι' h' vs cvs
 | [],_,x=>x
 | _::_,_,x=>by obtain ⟨v,vs',q,a,b⟩:=x;exact ⟨v,vs',q,aT.mono p k a,aX.mono p k b⟩
end
theorem HC:aT ι h .none .none:=rfl
theorem vI (b:Bool):aT ι h (.bool b) (.bool b):=rfl
theorem yV (i:Int) (t:Tok):aT ι h (.int i) (.int i t):=⟨t,rfl⟩
theorem yW:aX ι h [] []:=rfl
theorem pf {v:V} {cv:Value} {vs:List V} {cvs:List Value} (a:aT ι h v cv) (b:aX ι h vs cvs):aX ι h (v::vs) (cv::cvs):=⟨cv,cvs,rfl,a,b⟩
theorem kf.mono (p:ι<+:ι') (k:oG h h'):∀ {vs:List (Int×V)} {cvs:List (Int×Value)},kf ι h vs cvs->kf ι' h' vs cvs
 | [],_,x=>x
 | _::_,_,z2=>by obtain ⟨v,vs',q,a,b⟩:=z2;exact ⟨v,vs',q,a.mono p k,kf.mono p k b⟩
theorem qU.mono (p:ι<+:ι') (k:oG h h'):∀ {vs:List (String×V)} {cvs:List DictEntry},qU ι h vs cvs->qU ι' h' vs cvs
 | [],_,x=>x
 | _::_,_,z2=>by obtain ⟨t,v,vs',q,a,b⟩:=z2;exact ⟨t,v,vs',q,a.mono p k,qU.mono p k b⟩
theorem aX.length:∀ {vs:List V} {cvs:List Value},aX ι h vs cvs->cvs.length=vs.length
 | [],_,x=>by rw [show _=_ from x];rfl
 | _::_,_,z2=>by obtain ⟨_,_,q,_,b⟩:=z2;rw [q,aav,aav,aX.length b]
theorem aX.get:∀ {vs:List V} {cvs:List Value},aX ι h vs cvs-> ∀ {i:Nat} {v:V},vs[i]? = some v-> ∃cv,cvs[i]? = some cv/\aT ι h v cv
 | [],_,_,_,_,e=>by simp at e
 | x::xs,_,z2,i,w,e=>by
  obtain ⟨v,vs',q,a,b⟩:=z2
  subst q
  cases i with
  | zero=>simp at e;subst e;exact ⟨v,rfl,a⟩
  | succ i=>simpa using aX.get b (by simpa using e)
theorem aX.append:∀ {vs:List V} {cvs:List Value},aX ι h vs cvs-> ∀ {ws:List V} {cws:List Value},aX ι h ws cws->aX ι h (vs++ws) (cvs++cws)
 | [],_,x,_,_,y=>by rw [show _=[] from x];exact y
 | _::_,_,z2,_,_,y=>by obtain ⟨v,vs',q,a,b⟩:=z2;subst q;exact ⟨v,_,rfl,a,aX.append b y⟩
theorem aX.set:∀ {vs:List V} {cvs:List Value},aX ι h vs cvs-> ∀(i:Nat) {w:V} {cw:Value},aT ι h w cw->aX ι h (vs.set i w) (cvs.set i cw)
 | [],_,x,_,_,_,_=>by rw [show _=[] from x];rfl
 | _::_,_,z2,0,_,_,y=>by obtain ⟨v,vs',q,a,b⟩:=z2;subst q;exact ⟨_,_,rfl,y,b⟩
 | _::_,_,z2,i+1,_,_,y=>by obtain ⟨v,vs',q,a,b⟩:=z2;subst q;exact ⟨_,_,rfl,a,aX.set b i y⟩
theorem aX.take:∀ {vs:List V} {cvs:List Value},aX ι h vs cvs-> ∀(n:Nat),aX ι h (vs.take n) (cvs.take n)
 | [],_,x,n=>by rw [show _=[] from x];simp [aX]
 | _::_,_,z2,0=>by obtain ⟨v,vs',q,a,b⟩:=z2;simp [aX]
 | _::_,_,z2,n+1=>by obtain ⟨v,vs',q,a,b⟩:=z2;subst q;exact ⟨_,_,rfl,a,aX.take b n⟩
theorem aX.drop:∀ {vs:List V} {cvs:List Value},aX ι h vs cvs-> ∀(n:Nat),aX ι h (vs.drop n) (cvs.drop n)
 | [],_,x,n=>by rw [show _=[] from x];simp [aX]
 | _::_,_,z2,0=>by obtain ⟨v,vs',q,a,b⟩:=z2;exact ⟨v,vs',q,a,b⟩
 | _::_,_,z2,n+1=>by obtain ⟨v,vs',q,a,b⟩:=z2;subst q;exact aX.drop b n
end
def oD (fs:List Env) (ι:List Addr) (h:Heap):Prop :=
 ∀env∈fs,env.scope.kind≠ .module/\ ∃L o,env.frame=some L/\h.get? L=some o/\(∃es n,o.data= .dict es n)/\L∉ι/\G.hB.get? L=none
structure ROk (hq:Bool) (k:Nat) (A:Around):Prop where
 hd:hq=true->A.handled=none
 depth:A.depth+3*k<=800
 units:A.units+50*k<=9000
structure lg (hq:Bool) (k:Nat) (A:Around) (env:Env):Prop extends ROk hq k A where
 fr:∃fenv rest,A.frames=some (fenv::rest)/\fenv.frame=env.frame/\fenv.scope.isGenerator=false/\fenv.scope.isCoroutine=false/\fenv.builtins=builtinsNs/\fenv.globals=mainGlobals
structure cJ (A:Around) (env:Env) (ι:List Addr) (q:S) (s:Shared):Prop where
 st:eX ι q.H s.heap
 fr:kg env q.l ι s.heap s.heap
 fs:oD (A.frames.getD []) ι s.heap
 gens:s.gens = #[]
 os:s.os=G.os
 hn:sY A s.heap
structure bh (A:Around) (env:Env) (ι:List Addr) (s:Shared) (ι':List Addr) (q':S) (s':Shared):Prop where
 pre:ι<+:ι'
 rel:cJ A env ι' q' s'
 kp:Kp (own env++ι) (lB A) s.heap s'.heap
 new:∀a∈ι',a∈ι\/s.heap.get? a=none
inductive zb (B:Heap) (fs:List Env) (e:Addr) (C fl:Value) (h:Heap):Prop
 | mk (k:B.StaysIn h) (n:B.get? e=none) (f:h.FunFrames B fs) (oe:Obj) (vs:Array Value) (a0:Value) (T:Addr) (oT:Obj) (ts:Array Value) (he:h.get? e=some oe) (hc:oe.cls=C) (hd:oe.data= .fields vs)
   (h0:vs[0]? = some a0) (h2:vs[2]? = some .none) (h1:vs[1]? = some (.ref T)) (nT:B.get? T=none) (Te:T≠e) (hT:h.get? T=some oT) (dT:oT.data= .fields ts) (h3:ts[3]? = some fl)
section
variable {M:Model} {A:Around} {E:Value->Shared->Prop} {s:Shared} {B:Heap} {fs:List Env} {e:Addr} {C fl:Value}
theorem rG {T:Addr} {oT:Obj} {ts:Array Value} {h:Heap} (i:Nat) (x:Value) (hT:h.get? T=some oT) (dT:oT.data= .fields ts) (hk:B.StaysIn h) (nT:B.get? T=none) (hf:h.FunFrames B fs) :
  ∃h',A6 (h'=h.update T (Obj.mapFields (·.setIfInBounds i x))) (B.StaysIn h') (h'.FunFrames B fs) (h.UpToSlots h') (∀b,b≠T->h'.get? b=h.get? b) (∃o',h'.get? T=some o'/\o'.cls=oT.cls/\o'.data= .fields (ts.setIfInBounds i x)):=by
 have oth:∀b,b≠T->(h.update T (Obj.mapFields (·.setIfInBounds i x))).get? b=h.get? b:=λb hb=>Heap.get?_update_other _ _ (Ne.symm hb)
 have nr:∀b o,h.get? b=some o->(∀vs,o.data≠ .fields vs)->b≠T:=λb o hb hn q=>by rw [q,hT] at hb;cases hb;exact hn ts dT
 exact ⟨_,rfl,λb o hb=>(oth b λq=>by rw [q,nT] at hb;cases hb).trans (hk b o hb),hf.of_keeps λb o hb hn=>⟨o,(oth b (nr b o hb hn)).trans hb,rfl⟩,λb o hb hn=>⟨o.slots,(oth b (nr b o hb hn)).trans hb⟩,oth,
  _,Heap.get?_update_self _ hT (Obj.isFreed_of_fields (Obj.data_mapFields dT _)),Obj.cls_mapFields _ _,Obj.data_mapFields dT _⟩
theorem wY {Q:Unit->Shared->Prop} (x:zb B fs e C fl s.heap) (hQ:∀h',zb B fs e C .none h'->s.heap.UpToSlots h'->Q () { s with heap:=h' }):wpAny M A (setFlight (.ref e) none) Q E s:=by
 cases x with
 | mk k n f oe vs a0 T oT ts he hc hd h0 h2 h1 nT Te hT dT h3 =>
 have z:=(Array.getElem?_eq_some_iff.mp h3).1
 refine bP λY9 y9=> ?_
 obtain ⟨h',eh,k',f',u,oth,o',g1,g2,g3⟩:=rG 3 .none hT dT k nT f
 refine y9 ?_
 unfold setFlight
 refine wpAny_bind (wpAny_field he hd h1 ?_)
 rw [if_pos (show (Value.ref T != Value.none)=true from by simp)]
 refine wpAny_setField hT dT z ?_
 show Q () { s with heap:=s.heap.update T (Obj.mapFields (·.setIfInBounds 3 .none)) }
 rw [<- eh]
 exact hQ h' ⟨k',n,f',oe,vs,a0,T,o',_,(oth e (Ne.symm Te)).trans he,hc,hd,h0,h2,h1,nT,Te,g1,g3,by simp [z]⟩ u
theorem wW {env:Env} {outer:List Env} {L:Addr} {oe:Obj} {vs:Array Value} {head a0:Value} {hadNext:Bool} {Q:Unit->Shared->Prop} (hfr:A.frames=some (env::outer)) (hl:s.heap.FunFrames B (env::outer)) (hf:env.frame=some L)
  (he:s.heap.get? e=some oe) (hkb:B.StaysIn s.heap) (hen:B.get? e=none) (hd:oe.data= .fields vs) (h0:vs[0]? = some a0) (h2:vs[2]? = some .none)
  (h:∀h',zb B (env::outer) e oe.cls (rawInt L) h'->s.heap.UpToSlots h'->Q () { s with heap:=h' }) :
  wpAny M A (do let a <- frameOf env;let pl <- entryPlaceOf L hadNext;let b <- EntryCells.newEntry head a .none (rawInt L) .none pl;setField (.ref e) 1 b) Q E s:=by
 haveI ne:e∉(env::outer).filterMap (·.frame):=λhm=>by
  refine bP λY9 y9=> ?_
  obtain ⟨_,o,ho,hn⟩:=hl.mem hm
  refine y9 ?_
  rw [he] at ho;cases ho;exact hn vs hd
 have sz:1<vs.size:=Nat.lt_trans ∅ (Array.getElem?_eq_some_iff.mp h2).1
 refine wpAny_bind (wpAny_frameOf_fun hfr hl hf λh₁ hs=> ?_)
 refine wpAny_bind (wpAny_entryPlaceOf λpl hpl=> ?_)
 unfold EntryCells.newEntry newFields
 refine wpAny_bind (wpAny_newObj_type ?_ (hpl.sizeOk5 _ _ _ _ _))
 generalize hob:({ cls:= .type "traceback",dict:=none,data:= .fields ([head,.ref L,.none,rawInt L,.none]++(if pl.isEmpty then List.replicate 6 Value.none else pl)).toArray }:Obj)=tb
 have e1:h₁.get? e=some oe:=(hs.2.1 e ne).trans he
 have up:s.heap.UpToSlots (h₁.push tb):=λb o hb hn=>let ⟨sl,q⟩:=hs.2.2 b o hb;⟨sl,aah _ q⟩
 haveI kb:B.StaysIn (h₁.push tb):=λb o hb=>aah _ ((hs.2.1 b λhm=>by rw [(hl.mem hm).1] at hb;cases hb).trans (hkb b o hb))
 haveI gT:(h₁.push tb).get? h₁.objs.size=some tb:=aaG _ (by rw [<- hob];rfl)
 haveI nT:B.get? h₁.objs.size=none:=by
  cases q:B.get? h₁.objs.size with
  | none=>rfl
  | some o =>
   haveI:=(hs.2.1 h₁.objs.size λhm=>by rw [(hl.mem hm).1] at q;cases q).trans (hkb _ o q)
   exact absurd (Heap.lt_size this) (Nat.lt_irrefl _)
 have Te:h₁.objs.size≠e:=Nat.ne_of_gt (Heap.lt_size e1)
 refine bP λY9 y9=> ?_
 obtain ⟨h',eh,k',f',u,oth,o',g1,g2,g3⟩:=rG 1 (.ref h₁.objs.size) (aah tb e1) hd kb hen (hl.of_keeps λb o hb hn=>let ⟨sl,q⟩:=up b o hb hn;⟨_,q,rfl⟩)
 refine y9 ?_
 refine wpAny_setField (aah tb e1) hd sz ?_
 show Q () { s with heap:=(h₁.push tb).update e (Obj.mapFields (·.setIfInBounds 1 (.ref h₁.objs.size))) }
 rw [<- eh]
 refine h h' ⟨k',hen,f',o',_,a0,h₁.objs.size,tb,([head,.ref L,.none,rawInt L,.none]++(if pl.isEmpty then List.replicate 6 Value.none else pl)).toArray,g1,g2,g3,?_,?_,by simp [sz],nT,Te,(oth _ Te).trans gT,by rw [<- hob],by first | (simp;done) | (rcases hpl with rfl | ⟨_,_,_,_,_,_,_,rfl⟩<;>simp)⟩ (up.trans u)
 ·rw [Array.getElem?_setIfInBounds_ne ∅];exact h0
 ·rw [Array.getElem?_setIfInBounds_ne ∅];exact h2
theorem wX {env:Env} {outer:List Env} {L:Addr} {oe:Obj} {vs:Array Value} {a0:Value} {Q:Unit->Shared->Prop} (hfr:A.frames=some (env::outer)) (hl:s.heap.FunFrames B (env::outer)) (hf:env.frame=some L)
  (he:s.heap.get? e=some oe) (hkb:B.StaysIn s.heap) (hen:B.get? e=none) (hd:oe.data= .fields vs) (h0:vs[0]? = some a0) (h1:vs[1]? = some .none) (h2:vs[2]? = some .none)
  (h:∀h',zb B (env::outer) e oe.cls (rawInt L) h'->s.heap.UpToSlots h'->Q () { s with heap:=h' }):wpAny M A (noteFrame (.ref e) env) Q E s:=by
 unfold noteFrame
 simp only [hf]
 refine wpAny_bind (wpAny_field he hd h1 ?_)
 rw [if_neg ∅]
 exact wW hfr hl hf he hkb hen hd h0 h2 h
theorem zD {env:Env} {outer:List Env} {L:Addr} {Q:Unit->Shared->Prop} (hfr:A.frames=some (env::outer)) (hf:env.frame=some L) (x:zb B (env::outer) e C fl s.heap) (hfl:fl= .none\/fl=rawInt L)
  (h:∀h',zb B (env::outer) e C (rawInt L) h'->s.heap.UpToSlots h'->Q () { s with heap:=h' }):wpAny M A (noteFrame (.ref e) env) Q E s:=by
 cases x with
 | mk k n f oe vs a0 T oT ts he hc hd h0 h2 h1 nT Te hT dT h3 =>
 subst hc
 unfold noteFrame
 simp only [hf]
 refine wpAny_bind (wpAny_field he hd h1 ?_)
 rw [if_pos (show (Value.ref T != Value.none)=true from by simp)]
 refine wpAny_bind (wpAny_field hT dT h3 ?_)
 rcases hfl with rfl | rfl
 ·rw [if_neg (show ¬((Value.none==rawInt L)=true) from by simp [rawInt])]
  refine bP λY9 y9=> ?_
  obtain ⟨h',eh,k',f',u,oth,o',g1,g2,g3⟩:=rG 3 .none hT dT k nT f
  refine y9 ?_
  refine wpAny_bind (wpAny_setField hT dT (Array.getElem?_eq_some_iff.mp h3).1 ?_)
  rw [<- eh]
  exact wW (s:={ s with heap:=h' }) hfr f' hf ((oth e (Ne.symm Te)).trans he) k' n hd h0 h2 λh'' y u2=>h h'' y (u.trans u2)
 ·rw [if_pos (show (rawInt L==rawInt L)=true from by simp)]
  exact wpAny_pure (h s.heap ⟨k,n,f,oe,vs,a0,T,oT,ts,he,rfl,hd,h0,h2,h1,nT,Te,hT,dT,h3⟩ (Heap.UpToSlots.refl _))
end
inductive xK (B:Heap) (fs:List Env) (L e:Addr) (C:Value) (h:Heap):Prop
 | made (k:B.StaysIn h) (n:B.get? e=none) (f:h.FunFrames B fs) (oe:Obj) (vs:Array Value) (a0:Value) (he:h.get? e=some oe) (hc:oe.cls=C) (hd:oe.data= .fields vs) (h0:vs[0]? = some a0) (h1:vs[1]? = some .none) (h2:vs[2]? = some .none)
 | fly (fl:Value) (x:zb B fs e C fl h) (hfl:fl= .none\/fl=rawInt L)
theorem xK.keep {B:Heap} {fs:List Env} {L e:Addr} {C:Value} {h:Heap} (x:xK B fs L e C h):B.StaysIn h:=by
 cases x with
 | made k=>exact k
 | fly fl x=>cases x with | mk k=>exact k
inductive Kr (fs:List Env) (fa:List Addr) (env:Env) (ι:List Addr) (h:Heap) (c:String) (ι':List Addr) (q':S) (h':Heap) (ev:Value) (e C:Addr) (B:Heap) (L:Addr):Prop
 | mk (z0:ev= .ref e) (z1:G.xcl c=some C) (z2:env.frame=some L) (z3:xK B fs L e (.ref C) h') (z4:eX ι' q'.H B) (z5:kg env q'.l ι' B h') (z6:oD fs ι' h') (z7:∀a o,h.get? a=some o->a∉own env++ι->a∉fa->B.get? a=some o)
structure dQ (A:Around) (env:Env) (ι:List Addr) (s:Shared) (c:String) (ι':List Addr) (q':S) (s':Shared) (ev:Value):Prop where
 pre:ι<+:ι'
 ex:∃e C B L,Kr (A.frames.getD []) (lB A) env ι s.heap c ι' q' s'.heap ev e C B L
 size:AT s.heap s'.heap
 up:∀a o,s.heap.get? a=some o->a∉own env++ι-> ∃sl,s'.heap.get? a=some { o with slots:=sl }
 new:∀a∈ι',a∈ι\/s.heap.get? a=none
 gens:s'.gens = #[]
 os:s'.os=G.os
abbrev PT (β:Type):=(β->Shared->Prop)->(Value->Shared->Prop)->Shared->Prop
abbrev mJ {β:Type} (A:Around) (t:Sem β):PT β:=λQ E s=>wpAny G.M A t Q E s
def bg (A:Around) (env:Env) (ι:List Addr) (s:Shared) {α β:Type} (r:qT S α) (REL:List Addr->Heap->α->β->Prop) (T:PT β):Prop :=
 match r with
 | .ok a q'=> ∀Q E,(∀ι' b s',bh A env ι s ι' q' s'->REL ι' s'.heap a b->Q b s')->T Q E s
 | .exc c q'=> ∀Q E,(∀ι' ev s',dQ A env ι s c ι' q' s' ev->E ev s')->T Q E s
 | .stuck=>True
def Fin (A:Around) (env:Env) (ι:List Addr) (s:Shared) {α β:Type} (r:qT S α) (REL:List Addr->Heap->α->β->Prop) (Q:β->Shared->Prop) (E:Value->Shared->Prop):Prop :=
 match r with
 | .ok a q''=> ∀ι'' b s'',bh A env ι s ι'' q'' s''->REL ι'' s''.heap a b->Q b s''
 | .exc c q''=> ∀ι'' ev s'',dQ A env ι s c ι'' q'' s'' ev->E ev s''
 | .stuck=>False
def Sem.Is (hq:Bool) (k:Nat) (env:Env) {α β:Type} (T:Around->PT β) (m:Cm α) (REL:List Addr->Heap->α->β->Prop):Prop :=
 ∀A ι q s,lg hq k A env->cJ A env ι q s->bg A env ι s (m q) REL (T A)
abbrev Ev (hq:Bool) (k:Nat) (env:Env) (e:Expr) (m:Cm V):Prop:=Sem.Is hq k env (λA=>mJ A (eval e env)) m (aT)
abbrev Tr (hq:Bool) (k:Nat) (env:Env) (e:Expr) (m:Cm Bool):Prop:=Sem.Is hq k env (λA=>mJ A (isTrue e env (eval e env))) m (λ_ _ a b=>a=b)
noncomputable def wM (ι:List Addr) (h:Heap):Fl->Flow->Prop
 | .next,f=>f= .next
 | .ret v,f=> ∃cv,f= .ret cv/\aT ι h v cv
abbrev Ex (hq:Bool) (k:Nat) (env:Env) (st:Stmt) (m:Cm Fl):Prop:=Sem.Is hq k env (λA=>mJ A (exec st env)) m (wM)
abbrev DY (hq:Bool) (k:Nat) (env:Env) (st:List Stmt) (m:Cm Fl):Prop:=Sem.Is hq k env (λA=>mJ A (execs st env)) m (wM)
section
variable {A:Around} {env:Env} {ι ι' ι'':List Addr} {q q' q'':S} {s s' s'':Shared} {α β γ:Type}
theorem Kp.refl (W fr:List Addr) (h:Heap):Kp W fr h h:=⟨AT.refl _,λ_ o e _=>⟨o.slots,e⟩,λ_ _ e _ _=>e⟩
theorem Kp.of_stays {W fr:List Addr} {h h':Heap} (k:h.StaysIn h'):Kp W fr h h':=⟨AT.of_stays k,λ_ o e _=>⟨o.slots,k _ o e⟩,λ_ _ e _ _=>k _ _ e⟩
theorem ru {a:Addr} {h h':Heap} (n1:∀a∈ι',a∈ι\/h.get? a=none) (sz:AT h h') (n2:∀a∈ι'',a∈ι'\/h'.get? a=none) (ha:a∈ι''):a∈ι\/h.get? a=none :=
 (n2 a ha).elim (n1 a) λx=> .inr (by
  cases e:h.get? a with
  | none=>rfl
  | some o=>obtain ⟨o',e'⟩:=sz a o e;rw [x] at e';cases e')
theorem Cy {W:List Addr} {a:Addr} {o:Obj} {h:Heap} (n1:∀a∈ι',a∈ι\/h.get? a=none) (e:h.get? a=some o) (hW:a∉W++ι):a∉W++ι':=λhm =>
 (aao.mp hm).elim (λx=>hW (aaK _ x)) λx=>(n1 a x).elim (λy=>hW (aau _ y)) λy=>by rw [y] at e;cases e
theorem Kp.trans {W fr:List Addr} {h h' h'':Heap} (n1:∀a∈ι',a∈ι\/h.get? a=none) (x:Kp (W++ι) fr h h') (y:Kp (W++ι') fr h' h''):Kp (W++ι) fr h h'' where
 size:=x.size.trans y.size
 up:=λa o e hW=>by
  obtain ⟨sl,e1⟩:=x.up a o e hW
  obtain ⟨sl2,e2⟩:=y.up a _ e1 (Cy n1 e hW)
  exact ⟨sl2,e2⟩
 ex:=λa o e hW hf=>y.ex a o (x.ex a o e hW hf) (Cy n1 e hW) hf
theorem bh.trans (x:bh A env ι s ι' q' s') (y:bh A env ι' s' ι'' q'' s''):bh A env ι s ι'' q'' s'' where
 pre:=x.pre.trans y.pre
 rel:=y.rel
 kp:=x.kp.trans x.new y.kp
 new:=λ_ ha=>ru x.new x.kp.size y.new ha
theorem bh.transX {c:String} {ev:Value} (x:bh A env ι s ι' q' s') (y:dQ A env ι' s' c ι'' q'' s'' ev):dQ A env ι s c ι'' q'' s'' ev where
 pre:=x.pre.trans y.pre
 ex:=by
  refine bP λY9 y9=> ?_
  obtain ⟨e,C,B,L,h1,h2,h3,h4,h5,h6,h7,h8⟩:=y.ex
  refine y9 ?_
  exact ⟨e,C,B,L,h1,h2,h3,h4,h5,h6,h7,λa o e hW hf=>h8 a o (x.kp.ex a o e hW hf) (Cy x.new e hW) hf⟩
 size:=x.kp.size.trans y.size
 up:=λa o e hW=>by
  obtain ⟨sl,e1⟩:=x.kp.up a o e hW
  obtain ⟨sl2,e2⟩:=y.up a _ e1 (Cy x.new e hW)
  exact ⟨sl2,e2⟩
 new:=λ_ ha=>ru x.new x.kp.size y.new ha
 gens:=y.gens
 os:=y.os
theorem eX.mut (x:eX ι q.H s.heap) {a:Addr} (ha:a∈ι):∃o,s.heap.get? a=some o/\DZ o:=by
 obtain ⟨i,hi,rfl⟩:=List.mem_iff_getElem.mp ha
 have hi':i<q.H.length:=x.len▸hi
 have:=x.obj i ι[i] q.H[i] (by simp) (by simp)
 cases ho:q.H[i] with
 | list xs=>rw [ho] at this;obtain ⟨vs,⟨n,e⟩,_⟩:=this;exact ⟨_,e,.inl ⟨"list",rfl,by decide⟩⟩
 | dict es=>rw [ho] at this;obtain ⟨kvs,⟨o,es',ep,e,_,hd,_⟩,_⟩:=this;exact ⟨o,e,.inr (.inl ⟨es',ep,hd⟩)⟩
 | flds fs=>rw [ho] at this;obtain ⟨es,n,e,_⟩:=this;exact ⟨_,e,.inr (.inl ⟨_,_,rfl⟩)⟩
theorem kg.mut {l:bw} {hv hl:Heap} (k:∀b o,hv.get? b=some o->hl.get? b=some o) (x:kg env l ι hv hl) {a:Addr} (ha:a∈own env):∃o,hl.get? a=some o/\DZ o:=by
 rcases aal.mp ha with rfl | ha
 ·obtain ⟨m,⟨o,es,ep,ho,hd,_⟩,_⟩:=x.loc
  exact ⟨o,ho,.inr (.inl ⟨es,ep,hd⟩)⟩
 ·obtain ⟨p,hp,rfl⟩:=aag.mp ha
  obtain ⟨o,ov,ho,hd⟩:=x.cells p hp
  exact ⟨o,k _ _ ho,.inr (.inr ⟨ov,hd⟩)⟩
theorem cJ.imm' (R:cJ A env ι q s) {h':Heap} (up:∀a o,s.heap.get? a=some o->a∉own env++ι-> ∃sl,h'.get? a=some { o with slots:=sl }):oG s.heap h':=λa o e hm=>up a o e λhW=>by
 rcases aao.mp hW with h | h
 ·obtain ⟨o',e',hm'⟩:=R.fr.mut (λ_ _ e=>e) h
  rw [e] at e';cases e';exact hm hm'
 ·obtain ⟨o',e',hm'⟩:=R.st.mut h
  rw [e] at e';cases e';exact hm hm'
theorem cJ.imm (R:cJ A env ι q s) {fr:List Addr} {h':Heap} (k:Kp (own env++ι) fr s.heap h'):oG s.heap h':=R.imm' k.up
theorem bh.vrel {v:V} {cv:Value} (R:cJ A env ι q s) (P:bh A env ι s ι' q' s') (x:aT ι s.heap v cv):aT ι' s'.heap v cv:=x.mono P.pre (R.imm P.kp)
theorem bg.mono {r:qT S α} {REL:List Addr->Heap->α->β->Prop} {T:PT β} (P:bh A env ι s ι' q' s') (h:bg A env ι' s' r REL T) {Q:β->Shared->Prop} {E:Value->Shared->Prop}
  (hQ:Fin A env ι s r REL Q E):T Q E s':=by
 cases r with
 | ok a q''=>exact h Q E λι'' b s'' x y=>hQ ι'' b s'' (P.trans x) y
 | exc c q''=>exact h Q E λι'' ev s'' x=>hQ ι'' ev s'' (P.transX x)
 | stuck=>exact hQ.elim
theorem bg.imp {r:qT S α} {REL:List Addr->Heap->α->β->Prop} {T T':PT β} (h:bg A env ι s r REL T) (k:∀Q E,T Q E s->T' Q E s):bg A env ι s r REL T':=by
 cases r with
 | ok a q'=>exact λQ E x=>k _ _ (h Q E x)
 | exc c q'=>exact λQ E x=>k _ _ (h Q E x)
 | stuck=>trivial
theorem bg.b {m:Cm α} {f:α->Cm γ} {β':Type} {REL:List Addr->Heap->α->β->Prop} {REL':List Addr->Heap->γ->β'->Prop} {T:PT β} {T':β->PT β'}
  (h:bg A env ι s (m q) REL T)
  (k:∀a q' ι' b s',m q= .ok a q'->bh A env ι s ι' q' s'->REL ι' s'.heap a b->bg A env ι' s' (f a q') REL' (T' b)) :
  bg A env ι s ((m.b f) q) REL' (λQ E s=>T (λb s₁=>T' b Q E s₁) E s):=by
 unfold Cm.b
 cases hm:m q with
 | stuck=>trivial
 | exc c q' =>
  rw [hm] at h
  exact λQ E x=>h _ E x
 | ok a q' =>
  rw [hm] at h
  dsimp only
  have k':=k a q'
  cases hf:f a q' with
  | stuck=>trivial
  | ok c q'' =>
   intro Q E x
   refine h _ E λι' b s' P R=> ?_
   haveI:=k' ι' b s' hm P R
   rw [hf] at this
   exact this Q E λι'' b' s'' P' R'=>x ι'' b' s'' (P.trans P') R'
  | exc c q'' =>
   intro Q E x
   refine h _ E λι' b s' P R=> ?_
   haveI:=k' ι' b s' hm P R
   rw [hf] at this
   exact this Q E λι'' ev s'' P'=>x ι'' ev s'' (P.transX P')
theorem fB {m:Cm α} {f:α->Cm β} {a:α} (e:m q= .ok a q'):(m.b f) q=f a q':=by unfold Cm.b;rw [e]
theorem cE {m:Cm α} {f:α->Cm β} (e:m q= .stuck):(m.b f) q= .stuck:=by unfold Cm.b;rw [e]
theorem gC {m:Cm α} {f:α->Cm β} {c:String} (e:m q= .exc c q'):(m.b f) q= .exc c q':=by unfold Cm.b;rw [e]
theorem Dy {l:List Addr} (hn:l.Nodup) {i j:Nat} {a:Addr} (hi:l[i]? = some a) (hj:l[j]? = some a):i=j:=by
 obtain ⟨h1,e1⟩:=aab.mp hi
 obtain ⟨h2,e2⟩:=aab.mp hj
 have:=List.pairwise_iff_getElem.mp hn
 rcases Nat.lt_trichotomy i j with h | h | h
 ·exact absurd (e1.trans e2.symm) (this i j h1 h2 h)
 ·exact h
 ·exact absurd (e2.trans e1.symm) (this j i h2 h1 h)
theorem pV.there {h:Heap} {a:Addr} {o:O} (x:pV ι h a o):∃o',h.get? a=some o':=by
 cases o with
 | list xs=>obtain ⟨vs,⟨n,e⟩,r⟩:=x;exact ⟨_,e⟩
 | dict es=>obtain ⟨kvs,⟨o,es',ep,e,d⟩,r⟩:=x;exact ⟨_,e⟩
 | flds fs=>obtain ⟨es,n,e,r⟩:=x;exact ⟨_,e⟩
theorem pV.stays {h h':Heap} {a:Addr} {o:O} (p:ι<+:ι') (k:h.StaysIn h') (x:pV ι h a o):pV ι' h' a o:=by
 have im:=oG.of_stays k
 cases o with
 | list xs=>obtain ⟨vs,⟨n,e⟩,r⟩:=x;exact ⟨vs,⟨n,k _ _ e⟩,r.mono p im⟩
 | dict es=>obtain ⟨kvs,d,r⟩:=x;exact ⟨kvs,d.keep k,r.mono p im⟩
 | flds fs=>obtain ⟨es,n,e,r⟩:=x;exact ⟨es,n,k _ _ e,r.mono p im⟩
theorem pV.at {h h':Heap} {a:Addr} {o:O} (p:ι<+:ι') (im:oG h h') (k:∀o,h.get? a=some o->h'.get? a=some o) (x:pV ι h a o):pV ι' h' a o:=by
 cases o with
 | list xs=>obtain ⟨vs,⟨n,e⟩,r⟩:=x;exact ⟨vs,⟨n,k _ e⟩,r.mono p im⟩
 | dict es=>obtain ⟨kvs,⟨o,es',ep,e,d⟩,r⟩:=x;exact ⟨kvs,⟨o,es',ep,k _ e,d⟩,r.mono p im⟩
 | flds fs=>obtain ⟨es,n,e,r⟩:=x;exact ⟨es,n,k _ e,r.mono p im⟩
theorem eX.stays {H:Hp} {h h':Heap} (x:eX ι H h) (k:h.StaysIn h'):eX ι H h' where
 keep:=λb o e=>k b o (x.keep b o e)
 len:=x.len
 nodup:=x.nodup
 fresh:=x.fresh
 obj:=λi a o e1 e2=>(x.obj i a o e1 e2).stays (aac _) k
theorem kg.stays {l:bw} {hv hl hv' hl':Heap} (x:kg env l ι hv hl) (k:hv.StaysIn hv') (k':hl.StaysIn hl'):kg env l ι hv' hl' where
 kind:=x.kind
 glob:=x.glob
 blt:=x.blt
 loc:=let ⟨m,hn,hm⟩:=x.loc;⟨m,hn.keeps k',λy v e e2=>let ⟨cv,a,b⟩:=hm y v e e2;⟨cv,a,b.mono (aac _) (.of_stays k)⟩⟩
 cel:=λy v e e2=>let ⟨c,o,cv,a,b,d,f⟩:=x.cel y v e e2;⟨c,o,cv,a,k _ _ b,d,f.mono (aac _) (.of_stays k)⟩
 cells:=λp hp=>let ⟨o,ov,a,b⟩:=x.cells p hp;⟨o,ov,k _ _ a,b⟩
 ndup:=x.ndup
 dis:=x.dis
 fresh:=x.fresh
theorem oD.stays {fs:List Env} {h h':Heap} (x:oD fs ι h) (k:h.StaysIn h'):oD fs ι h':=λenv he =>
 let ⟨a,L,o,b,c,d⟩:=x env he;⟨a,L,o,b,k _ _ c,d⟩
theorem cJ.stays (R:cJ A env ι q s) {h':Heap} {tk:Nat} (k:s.heap.StaysIn h'):cJ A env ι q { s with heap:=h',toks:=tk } where
 hn:=R.hn.imm (.of_stays k)
 st:=R.st.stays k
 fr:=R.fr.stays k k
 fs:=R.fs.stays k
 gens:=R.gens
 os:=R.os
theorem bh.stays (R:cJ A env ι q s) {h':Heap} {tk:Nat} (k:s.heap.StaysIn h'):bh A env ι s ι q { s with heap:=h',toks:=tk } where
 pre:=aac _
 rel:=R.stays k
 kp:= .of_stays k
 new:=λ_ ha=> .inl ha
theorem bh.refl (R:cJ A env ι q s):bh A env ι s ι q s where
 pre:=aac _
 rel:=R
 kp:= .refl _ _ _
 new:=λ_ ha=> .inl ha
theorem bh.toks (R:cJ A env ι q s) (tk:Nat):bh A env ι s ι q { s with toks:=tk }:=bh.stays (h':=s.heap) R λ_ _ e=>e
theorem bg.ret {a:α} {b:β} {REL:List Addr->Heap->α->β->Prop} {T:PT β} {tk:Nat} (R:cJ A env ι q s) (hR:REL ι s.heap a b) (hT:∀Q E,Q b { s with toks:=tk }->T Q E s) :
  bg A env ι s (.ok a q) REL T:=λ_ _ x=>hT _ _ (x ι b _ (bh.toks R tk) hR)
theorem bg.ret0 {a:α} {b:β} {REL:List Addr->Heap->α->β->Prop} {T:PT β} (R:cJ A env ι q s) (hR:REL ι s.heap a b) (hT:∀Q E,Q b s->T Q E s) :
  bg A env ι s (.ok a q) REL T:=λ_ _ x=>hT _ _ (x ι b _ (bh.refl R) hR)
theorem bg.grew {a:α} {b:β} {REL:List Addr->Heap->α->β->Prop} {T:PT β} {h':Heap} {tk:Nat} (R:cJ A env ι q s) (k:s.heap.StaysIn h') (hR:REL ι h' a b)
  (hT:∀Q E,Q b { s with heap:=h',toks:=tk }->T Q E s):bg A env ι s (.ok a q) REL T:=λ_ _ x=>hT _ _ (x ι b _ (bh.stays R k) hR)
theorem cJ.fresh_ne (R:cJ A env ι q s) {a:Addr} (ha:s.heap.get? a=none):A3 (a∉ι) (a∉own env) (G.hB.get? a=none):=by
 refine ⟨λh=> ?_,λh=> ?_,?_⟩
 ·obtain ⟨o,e,_⟩:=R.st.mut h;rw [ha] at e;cases e
 ·obtain ⟨o,e,_⟩:=R.fr.mut (λ_ _ e=>e) h;rw [ha] at e;cases e
 ·cases e:G.hB.get? a with
  | none=>rfl
  | some o=>have:=R.st.keep _ _ e;rw [ha] at this;cases this
theorem bh.alloc (R:cJ A env ι q s) {h':Heap} {tk:Nat} {a:Addr} {o:O} (k:s.heap.StaysIn h') (ha:s.heap.get? a=none) (ho:pV (ι++[a]) h' a o) :
  bh A env ι s (ι++[a]) { q with H:=q.H++[o] } { s with heap:=h',toks:=tk }:=by
 have pre:ι<+:ι++[a]:=aap _ _
 have im:=oG.of_stays k
 obtain ⟨n1,n2,n3⟩:=R.fresh_ne ha
 have R':=R.stays (tk:=tk) k
 refine ⟨pre,⟨⟨R'.st.keep,by simp [R.st.len],?_,?_,?_⟩,⟨R'.fr.kind,R'.fr.glob,R'.fr.blt,?_,?_,R'.fr.cells,R'.fr.ndup,?_,R'.fr.fresh⟩,?_,R.gens,R.os,R.hn.imm im⟩,(.of_stays k),?_⟩
 ·exact List.nodup_append.mpr ⟨R.st.nodup,by simp,λx hx y hy=>by simp at hy;subst hy;exact λe=>n1 (e▸hx)⟩
 ·intro x hx
  rcases aao.mp hx with h | h
  ·exact R.st.fresh x h
  ·simp at h;subst h;exact n3
 ·intro i x y e1 e2
  by_cases hi:i<ι.length
  ·rw [aaw hi] at e1
   rw [aaw (R.st.len▸hi)] at e2
   exact (R.st.obj i x y e1 e2).stays pre k
  ·haveI hi':i=ι.length:=by
    haveI:=(aab.mp e1).1
    simp at this;exact aaf (cM 0x100191c0111 this) (cM 0x1010511 hi)
   subst hi'
   simp at e1;subst e1
   rw [R.st.len] at e2;simp at e2;subst e2
   exact ho
 ·obtain ⟨m,hn,hm⟩:=R.fr.loc
  exact ⟨m,hn.keeps k,λy v e e2=>let ⟨cv,a,b⟩:=hm y v e e2;⟨cv,a,b.mono pre im⟩⟩
 ·exact λy v e e2=>let ⟨c,o,cv,a,b,d,f⟩:=R.fr.cel y v e e2;⟨c,o,cv,a,k _ _ b,d,f.mono pre im⟩
 ·intro x hx hm
  rcases aao.mp hm with h | h
  ·exact R.fr.dis x hx h
  ·simp at h;subst h;exact n2 hx
 ·intro env' he
  refine bP λY9 y9=> ?_
  obtain ⟨b1,L,o',b2,b3,b4,b5,b6⟩:=R.fs env' he
  refine y9 ?_
  refine ⟨b1,L,o',b2,k _ _ b3,b4,λhm=> ?_,b6⟩
  rcases aao.mp hm with h | h
  ·exact b5 h
  ·simp at h;subst h;rw [ha] at b3;cases b3
 ·intro x hx
  rcases aao.mp hx with h | h
  ·exact .inl h
  ·simp at h;subst h;exact .inr ha
theorem bg.alloc {b:β} {v:α} {REL:List Addr->Heap->α->β->Prop} {T:PT β} {h':Heap} {tk:Nat} {a:Addr} {o:O} (R:cJ A env ι q s) (k:s.heap.StaysIn h') (ha:s.heap.get? a=none)
  (ho:pV (ι++[a]) h' a o) (hR:REL (ι++[a]) h' v b) (hT:∀Q E,Q b { s with heap:=h',toks:=tk }->T Q E s):bg A env ι s (.ok v { q with H:=q.H++[o] }) REL T :=
 λ_ _ x=>hT _ _ (x _ b _ (bh.alloc R k ha ho) hR)
theorem bh.set (R:cJ A env ι q s) {h':Heap} {tk:Nat} {i:Nat} {a:Addr} {o':O} (hi:ι[i]? = some a) (hs:Heap.SameBut a s.heap h') (im:oG s.heap h'->pV ι h' a o') :
  bh A env ι s ι { q with H:=q.H.set i o' } { s with heap:=h',toks:=tk }:=by
 have ha:a∈ι:=aaN hi
 obtain ⟨oa,ea,hma⟩:=R.st.mut ha
 have ext:=hs.extBut
 have ne:∀b o,s.heap.get? b=some o->b∉ι->h'.get? b=some o:=λb o e hb=>ext b o (λq=>hb (q▸ha)) e
 have im':=R.imm' (h':=h') λb o e hW=>⟨o.slots,ne b o e λx=>hW (aau _ x)⟩
 have im:=im im'
 haveI kp:Kp (own env++ι) (lB A) s.heap h':=⟨λb o e=>by
   by_cases hb:b=a
   ·subst hb;exact im.there
   ·exact ⟨o,ext b o hb e⟩,λb o e hW=>⟨o.slots,ne b o e λx=>hW (aau _ x)⟩,λb o e hW _=>ne b o e λx=>hW (aau _ x)⟩
 have pr:ι<+:ι:=aac _
 refine ⟨pr,⟨⟨?_,by simp [R.st.len],R.st.nodup,R.st.fresh,?_⟩,⟨R.fr.kind,R.fr.glob,R.fr.blt,?_,?_,?_,R.fr.ndup,R.fr.dis,R.fr.fresh⟩,?_,R.gens,R.os,R.hn.imm im'⟩,kp,λ_ h=> .inl h⟩
 ·intro b o e
  exact ext b o (λq=>by rw [q,R.st.fresh a ha] at e;cases e) (R.st.keep b o e)
 ·intro j x y e1 e2
  dsimp only at e2
  by_cases hj:i=j
  ·subst hj
   rw [hi] at e1;cases e1
   have:i<q.H.length:=R.st.len▸(aab.mp hi).1
   rw [aaB this] at e2;cases e2
   exact im
  ·rw [aaS hj] at e2
   refine (R.st.obj j x y e1 e2).at pr im' λo e=>ext x o (λq=>hj ?_) e
   subst q
   exact Dy R.st.nodup hi e1
 ·obtain ⟨m,hn,hm⟩:=R.fr.loc
  haveI hL:env.locals≠a:=λq=>R.fr.dis env.locals (.head _) (q▸ha)
  exact ⟨m,hn.extBut ext hL,λy v e e2=>let ⟨cv,a,b⟩:=hm y v e e2;⟨cv,a,b.mono pr im'⟩⟩
 ·intro y v e e2
  refine bP λY9 y9=> ?_
  obtain ⟨c,o,cv,h1,h2,h3,h4⟩:=R.fr.cel y v e e2
  refine y9 ?_
  haveI hc:c∈own env:=List.mem_cons_of_mem _ (aag.mpr ⟨_,bk h1,rfl⟩)
  exact ⟨c,o,cv,h1,ne c o h2 (R.fr.dis c hc),h3,h4.mono pr im'⟩
 ·intro p hp
  refine bP λY9 y9=> ?_
  obtain ⟨o,ov,h1,h2⟩:=R.fr.cells p hp
  refine y9 ?_
  exact ⟨o,ov,ne p.2 o h1 (R.fr.dis p.2 (List.mem_cons_of_mem _ (aag.mpr ⟨p,hp,rfl⟩))),h2⟩
 ·intro env' he
  refine bP λY9 y9=> ?_
  obtain ⟨b1,L,o',b2,b3,b4,b5,b6⟩:=R.fs env' he
  refine y9 ?_
  exact ⟨b1,L,o',b2,ne L o' b3 b5,b4,b5,b6⟩
where
 bk {α β:Type} [BEq α] [LawfulBEq α] {x:α} {y:β}:∀ {l:List (α×β)},l.lookup x=some y->(x,y)∈l
  | [],e=>by simp at e
  | (a,b)::r,e=>by
   rw [List.lookup_cons] at e
   split at e
   ·rename_i q;cases e;rw [eq_of_beq q];exact .head _
   ·exact .tail _ (bk e)
theorem bg.set {b:β} {v:α} {REL:List Addr->Heap->α->β->Prop} {T:PT β} {h':Heap} {tk:Nat} {i:Nat} {a:Addr} {o':O} (R:cJ A env ι q s) (hi:ι[i]? = some a) (hs:Heap.SameBut a s.heap h')
  (im:oG s.heap h'->pV ι h' a o') (hR:oG s.heap h'->REL ι h' v b) (hT:∀Q E,Q b { s with heap:=h',toks:=tk }->T Q E s):bg A env ι s (.ok v { q with H:=q.H.set i o' }) REL T:=by
 have P:=bh.set (tk:=tk) R hi hs im
 exact λ_ _ x=>hT _ _ (x _ b _ P (hR (R.imm P.kp)))
end
theorem I7 {k:Int} (h:k<16000000):k<2 ^ 63:=Int.lt_trans h ∅
theorem Kf {k:Int} (h:0<=k) : -2 ^ 63<=k:=Int.le_trans ∅ h
theorem J7 {n:Nat} (h:n<16000000):(n:Int)<2 ^ 63:=I7 (Int.ofNat_lt.mpr h)
theorem JY {x:Int} (a:0<=x) (b:x<16000000) : -9223372036854775808<=x/\x<9223372036854775808:=⟨Int.le_trans ∅ a,Int.lt_trans b ∅⟩
section
variable {hq:Bool} {k:Nat} {env:Env}
noncomputable def af (x:String):Cm V:=λq=>match q.l x with | some v=> .ok v q | none=> .stuck
theorem aa {x:String} {pos:Pos} (hx:env.kindOf (Str.ofString x)=some .local:=by kernel_rfl) (hd:(Str.ofString x==("__debug__" : Str))=false:=by kernel_rfl):Ev hq k env (.Name (Str.ofString x) pos) (af x):=by
 intro A ι q s ha R
 unfold af
 cases h:q.l x with
 | none=>trivial
 | some v =>
  refine bP λY9 y9=> ?_
  obtain ⟨m,hn,hm⟩:=R.fr.loc
  obtain ⟨cv,h1,h2⟩:=hm x v h hx
  refine y9 ?_
  exact bg.ret0 R h2 λQ E hQ=>wpAny_Name (wpAny_loadName_local R.fr.kind hx hn h1 hQ) hd
theorem bf {x:String} {pos:Pos} (hx:env.kindOf (Str.ofString x)=some .cell:=by kernel_rfl) (hd:(Str.ofString x==("__debug__" : Str))=false:=by kernel_rfl):Ev hq k env (.Name (Str.ofString x) pos) (af x):=by
 intro A ι q s ha R
 unfold af
 cases h:q.l x with
 | none=>trivial
 | some v =>
  refine bP λY9 y9=> ?_
  obtain ⟨c,o,cv,h1,h2,h3,h4⟩:=R.fr.cel x v h (.inl hx)
  refine y9 ?_
  exact bg.ret0 R h4 λQ E hQ=>wpAny_Name (wpAny_loadName_cell R.fr.kind hx h1 ⟨o,h2,h3⟩ hQ) hd
theorem ar {i:Int} {kk:Nat} {pos:Pos}:Ev hq k env (.Constant (.int i) kk pos) (.p (.int i)) :=
 λ_ _ _ _ _ R=>bg.ret R ⟨_,rfl⟩ λ_ _ hQ=>wpAny_Constant_int hQ
theorem mM {kk:Nat} {pos:Pos}:Ev hq k env (.Constant .none kk pos) (.p .none) :=
 λ_ _ _ _ _ R=>bg.ret0 R HC λ_ _ hQ=>wpAny_Constant_none hQ
theorem cI {b:Bool} {kk:Nat} {pos:Pos}:Ev hq k env (.Constant (.bool b) kk pos) (.p (.bool b)) :=
 λ_ _ _ _ _ R=>bg.ret0 R (vI b) λ_ _ hQ=>wpAny_Constant_bool hQ
theorem bE {x:String} {kk:Nat} {pos:Pos}:Ev hq k env (.Constant (.str (Str.ofString x)) kk pos) (.p (.str x)) :=
 λ_ _ _ _ _ R=>bg.ret R ⟨_,rfl⟩ λ_ _ hQ=>wpAny_Constant_str hQ
theorem AV (C:bJ G) {x:String} {i:Int} {t:Tok} {pos:Pos} (hx:env.kindOf (Str.ofString x)=some .globalImplicit) (hv:nsIn G.K mainGlobals (Str.ofString x)=some (some (.int i t)))
  (hd:(Str.ofString x==("__debug__" : Str))=false):Ev hq k env (.Name (Str.ofString x) pos) (.p (.int i)) :=
 λ_ _ _ _ _ R=>bg.ret0 R ⟨t,rfl⟩ λ_ _ hQ=>Calls.Name_function_global R.fr.kind hx
  (Calls.loadGlobal_global (by rw [R.fr.glob];exact C.g.keeps R.st.keep) (mg_of C.X C.g hv) hQ) hd
theorem cT (C:bJ G) {A:Around} {ι:List Addr} {q:S} {s:Shared} (R:cJ A env ι q s) {x:Str} {v:Value} {pos:Pos} (hx:env.kindOf x=some .globalImplicit) (hv:nsIn G.K mainGlobals x=some (some v))
  (hd:(x==("__debug__" : Str))=false) {Q:Value->Shared->Prop} {E:Value->Shared->Prop} (h:Q v s):wpAny G.M A (eval (.Name x pos) env) Q E s :=
 Calls.Name_function_global R.fr.kind hx (Calls.loadGlobal_global (by rw [R.fr.glob];exact C.g.keeps R.st.keep) (mg_of C.X C.g hv) h) hd
theorem ff (C:bJ G) {A:Around} {ι:List Addr} {q:S} {s:Shared} (R:cJ A env ι q s) {x:Str} {v:Value} {pos:Pos} (hx:env.kindOf x=some .globalImplicit) (hv:nsIn G.K mainGlobals x=some none)
  (hb:bootBuiltins x=some v) (hn:x ≠ "__name__") (hd:(x==("__debug__" : Str))=false) {Q:Value->Shared->Prop} {E:Value->Shared->Prop} (h:Q v s):wpAny G.M A (eval (.Name x pos) env) Q E s :=
 Calls.Name_function_global R.fr.kind hx (Calls.loadGlobal_builtin (by rw [R.fr.glob];exact C.g.keeps R.st.keep) (mg_none_of C.X C.g hv)
  (by rw [R.fr.blt];exact C.b.keeps R.st.keep) ((C.bt x hn).trans hb) h) hd
abbrev wO (T:Around->Value->Value->PT Value) (f:V->V->Cm V):Prop :=
 ∀A env ι q s a b ca cb,bJ G->(∃hq k,lg hq k A env)->cJ A env ι q s->aT ι s.heap a ca->aT ι s.heap b cb->bg A env ι s (f a b q) (aT) (T A ca cb)
theorem ax (C:bJ G) {l r:Expr} {op:Operator} {pos:Pos} {m1 m2:Cm V} {f:V->V->Cm V} (h1:Ev hq k env l m1) (h2:Ev hq k env r m2)
  (hf:wO (λA a b=>mJ A (binaryOp op a b)) f):Ev hq k env (.BinOp l op r pos) (m1.b λa=>m2.b λb=>f a b) :=
 λA ι q s ha R=>(bg.b (h1 A ι q s ha R) λa q' ι' b s' _ P hv=>bg.b (T':=λb' Q E s₂=>wpAny G.M A (binaryOp op b b') Q E s₂) (h2 A ι' q' s' ha P.rel) λa2 q2 ι2 b2 s2 _ P2 hv2 =>
  hf A env ι2 q2 s2 a a2 b b2 C ⟨_,_,ha⟩ P2.rel (P2.vrel P.rel hv) hv2).imp λQ E x=>wpAny_BinOp x
theorem lg.pylong (C:bJ G) {A:Around} {ι:List Addr} {q:S} {s:Shared} (ha:∃hq k,lg hq k A env) (R:cJ A env ι q s):PylongRoom G.M A s:=by
 refine bP λY9 y9=> ?_
 obtain ⟨hq,k,ha⟩:=ha
 obtain ⟨fenv,rest,h1,h2,h3,h4,h5,h6⟩:=ha.fr
 refine y9 ?_
 refine PylongRoom.of (C.lim.keeps R.st.keep) ?_ (SeerAt.of (C.seer.keeps R.st.keep) C.tree h1 h3 h4 h5 h6)
 exact Nat.lt_of_le_of_lt (Nat.add_le_add (aam (aaJ _ _) ha.depth) (by decide:Builtin.pylongFrames<=150)) (by decide:800+150<1000)
noncomputable def cS:V->V->Cm V
 | .int i,.int j=> .p (.int (i+j))
 | .str x,.str y=>if x.length+y.length<=100000 then .p (.str (x++y)) else .stk
 | .ref i,.ref j=>λq=>match q.H[i]?,q.H[j]? with
  | some (.list xs),some (.list ys)=>if xs.length+ys.length<=1000000 then .ok (.ref q.H.length) { q with H:=q.H++[.list (xs++ys)] } else .stuck
  | _,_=> .stuck
 | _,_=> .stk
noncomputable def wb:V->V->Cm V
 | .int i,.int j=> .p (.int (i-j))
 | _,_=> .stk
noncomputable def gx:V->V->Cm V
 | .int i,.int j=>haveI:=Classical.propDecidable (IntMulOk i j);if IntMulOk i j then .p (.int (i*j)) else .stk
 | .ref i,.int n=>λq=>match q.H[i]? with
  | some (.list xs)=>if xs.length=1/\0<=n/\n<=1000000 then .ok (.ref q.H.length) { q with H:=q.H++[.list (List.replicate n.toNat xs).flatten] } else .stuck
  | _=> .stuck
 | _,_=> .stk
noncomputable def dR:V->V->Cm V
 | .int i,.int j=>if j=0 then .stk else .p (.int (i.fdiv j))
 | _,_=> .stk
noncomputable def bD:V->V->Cm V
 | .int i,.int j=>if j=0 then .stk else .p (.int (i.fmod j))
 | _,_=> .stk
theorem pX:wO (λA a b=>mJ A (binaryOp .Sub a b)) wb:=by
 intro A env ι q s a b ca cb C ha R h1 h2
 cases a with
 | int i =>
  cases b with
  | int j =>
   obtain ⟨t,rfl⟩:=h1;obtain ⟨u,rfl⟩:=h2
   exact bg.ret R ⟨_,rfl⟩ λQ E hQ=>P.sub_int hQ
  | _=>trivial
 | _=>trivial
theorem fG:wO (λA a b=>mJ A (binaryOp .FloorDiv a b)) dR:=by
 intro A env ι q s a b ca cb C ha R h1 h2
 cases a with
 | int i =>
  cases b with
  | int j =>
   obtain ⟨t,rfl⟩:=h1;obtain ⟨u,rfl⟩:=h2
   unfold dR;dsimp only
   split
   ·trivial
   ·exact bg.ret R ⟨_,rfl⟩ λQ E hQ=>floordiv_int (by assumption) hQ (.inr (lg.pylong C ha R))
  | _=>trivial
 | _=>trivial
theorem bM:wO (λA a b=>mJ A (binaryOp .Mod a b)) bD:=by
 intro A env ι q s a b ca cb C ha R h1 h2
 cases a with
 | int i =>
  cases b with
  | int j =>
   obtain ⟨t,rfl⟩:=h1;obtain ⟨u,rfl⟩:=h2
   unfold bD;dsimp only
   split
   ·trivial
   ·exact bg.ret R ⟨_,rfl⟩ λQ E hQ=>mod_int' (by assumption) hQ
  | _=>trivial
 | _=>trivial
theorem eX.list {ι:List Addr} {H:Hp} {h:Heap} (x:eX ι H h) {i:Nat} {xs:List V} (e:H[i]? = some (.list xs)):∃a n vs,A3 (ι[i]? = some a) (IsL h a (List.toArray vs) n) (aX ι h xs vs):=by
 have hi:i<ι.length:=x.len▸(aab.mp e).1
 refine bP λY9 y9=> ?_
 obtain ⟨vs,⟨n,h1⟩,h2⟩:=x.obj i ι[i] _ (by simp) e
 refine y9 ?_
 exact ⟨ι[i],n,vs,by simp,h1,h2⟩
theorem eX.dict {ι:List Addr} {H:Hp} {h:Heap} (x:eX ι H h) {i:Nat} {es:List (Int×V)} (e:H[i]? = some (.dict es)):∃a kvs,A3 (ι[i]? = some a) (h.DictOf (intKind G.prog G.w) a kvs) (kf ι h es kvs):=by
 have hi:i<ι.length:=x.len▸(aab.mp e).1
 obtain ⟨kvs,h1,h2⟩:=x.obj i ι[i] _ (by simp) e
 exact ⟨ι[i],kvs,by simp,h1,h2⟩
theorem eX.flds {ι:List Addr} {H:Hp} {h:Heap} (x:eX ι H h) {i:Nat} {fs:List (String×V)} (e:H[i]? = some (.flds fs)):∃a es n,A3 (ι[i]? = some a) (h.get? a=some (dictOf es n)) (qU ι h fs es):=by
 have hi:i<ι.length:=x.len▸(aab.mp e).1
 obtain ⟨es,n,h1,h2⟩:=x.obj i ι[i] _ (by simp) e
 exact ⟨ι[i],es,n,by simp,h1,h2⟩
theorem je (h:Heap) (o:Obj):h.StaysIn (h.push o):=λ_ _ e=>aah _ e
theorem jr {ι:List Addr} {H:Hp} {h h':Heap} (x:eX ι H h) (a:Addr):aT (ι++[a]) h' (.ref H.length) (.ref a):=⟨a,by rw [<- x.len];simp,rfl⟩
theorem bg.newList {β:Type} {A:Around} {ι:List Addr} {q:S} {s:Shared} {T:PT Value} {tk:Nat} {xs:List V} {vs:List Value} (R:cJ A env ι q s) (hx:aX ι s.heap xs vs)
  (hT:∀Q E,Q (.ref s.heap.objs.size) { s with heap:=s.heap.push { cls:= .type "list",data:= .seq vs.toArray },toks:=tk }->T Q E s) :
  bg A env ι s (.ok (.ref q.H.length) { q with H:=q.H++[.list xs] }) (aT) T :=
 bg.alloc R (je _ _) (aaI (aaD _)) ⟨vs,⟨0,aaG _ rfl⟩,hx.mono (aap _ _) (.of_stays (je _ _))⟩ (jr R.st _) hT
theorem tj (x y:String):Str.ofString x++Str.ofString y=Str.ofString (x++y):=by
 rw [Str.ofString_eq_toList,Str.ofString_eq_toList,Str.ofString_eq_toList,String.toList_append,List.map_append]
 apply Str.ext'
 show _++_=_
 simp
theorem f9 {x y:String} (h:Str.ofString x=Str.ofString y):x=y:=by
 rw [Str.ofString_eq_toList,Str.ofString_eq_toList] at h
 haveI h1:(x.toList.map Char.toNat)=(y.toList.map Char.toNat):=by simpa using congrArg (λz:Str=>z.cps.toList) h
 haveI h2:x.toList=y.toList:=by
  refine (List.map_inj_right ?_).mp h1
  intro a b e
  exact Char.ext (UInt32.toNat.inj e)
 exact String.toList_injective h2
theorem bZ:wO (λA a b=>mJ A (binaryOp .Add a b)) cS:=by
 intro A env ι q s a b ca cb C ha R h1 h2
 cases a with
 | int i =>
  cases b with
  | int j =>
   obtain ⟨t,rfl⟩:=h1;obtain ⟨u,rfl⟩:=h2
   exact bg.ret R ⟨_,rfl⟩ λQ E hQ=>P.add_int hQ
  | _=>trivial
 | str x =>
  cases b with
  | str y =>
   obtain ⟨t,rfl⟩:=h1;obtain ⟨u,rfl⟩:=h2
   unfold cS;dsimp only
   split
   ·rename_i hl
    intro Q E hQ
    refine add_str (λt' tk=> ?_) (by rw [PySem.ofString_length,PySem.ofString_length,sizeLine_eq];exact cM 0xb10c00186a0a10c011 hl)
    rw [tj]
    exact hQ ι _ _ (bh.toks R tk) ⟨t',rfl⟩
   ·trivial
  | _=>trivial
 | ref i =>
  cases b with
  | ref j =>
   obtain ⟨x,hx,rfl⟩:=h1;obtain ⟨y,hy,rfl⟩:=h2
   unfold cS;dsimp only
   cases e1:q.H[i]? with
   | none=>trivial
   | some o =>
    cases o with
    | list xs =>
     cases e2:q.H[j]? with
     | none=>trivial
     | some o =>
      cases o with
      | list ys =>
       dsimp only
       split
       ·rename_i hl
        refine bP λY9 y9=> ?_
        obtain ⟨a1,n1,vs,g1,g2,g3⟩:=R.st.list e1
        obtain ⟨a2,n2,ws,k1,k2,k3⟩:=R.st.list e2
        refine y9 ?_
        obtain rfl:x=a1:=Option.some.inj (hx.symm.trans g1)
        obtain rfl:y=a2:=Option.some.inj (hy.symm.trans k1)
        refine bg.newList (β:=Value) (tk:=s.toks) R (g3.append k3) λQ E hQ=>P.add_list g2 k2 ?_ ?_
        ·simpa using hQ
        ·rw [aaL,aaL,g3.length,k3.length,sizeLine_eq];exact cM 0xb10c00f4240a10c011 hl
       ·trivial
      | _=>trivial
    | _=>trivial
  | _=>trivial
 | _=>trivial
theorem zC {ι:List Addr} {h:Heap} {xs:List V} {vs:List Value} (x:aX ι h xs vs):∀n:Nat,aX ι h (List.replicate n xs).flatten (List.replicate n vs).flatten
 | 0=>yW
 | n+1=>by
  rw [List.replicate_succ,List.replicate_succ,List.flatten_cons,List.flatten_cons]
  exact x.append (zC x n)
theorem Gv {prog:Program} {w:World} {A:Around} {E:Value->Shared->Prop} {s:Shared} {l:Addr} {items:Array Value} {k:Nat} {x:Int} {u:Tok} {Q:Value->Shared->Prop}
  (hl:IsL s.heap l items k) (hlo : -(2 ^ 63:Int)<=x) (hhi:x<2 ^ 63) (hsz:items.size*x.toNat<=2 ^ 24)
  (h:Q (.ref s.heap.objs.size) { s with heap:=s.heap.push { cls:= .type "list",data:= .seq (List.foldl (λx1 x2=>x1++x2) #[] (List.replicate (if items.isEmpty=true then 0 else x.toNat) items)) } }) :
  wpAny (model prog w) A (binaryOp .Mult (.ref l) (.int x u)) Q E s :=
 wpAny_binaryOp_repeat_ref (T := "list") (U := "int") ∅ ⟨_,hl,rfl⟩ (λs'=>typeIs_int s' x u) noFill_list_mul F.fills_int_mul F.slot_int_rmul repeat_list F.slot_int_index.lookup
  (call_meets F.slot_int_rmul (typeIs_int s x u) F.entry_int_rmul (F.args_int_rmul_2 _ _) (int___rmul___int_list x u l items k)
   ⟨hl,rfl,⟨_,hl,rfl⟩,call_meets F.slot_list_mul ⟨_,hl,rfl⟩ F.entry_list_mul (F.args_list_mul_2 _ _)
    (AutoListH.list___mul___list_int_3 l items k x u (by simp [Builtin.List.listFitsIndex];exact ⟨Int.le_trans ∅ hlo,Int.lt_of_lt_of_le hhi ∅⟩) (Nat.not_lt.mpr (aam hsz ∅)) (by simp [Builtin.List.listTooLong,sizeLine];exact aam hsz ∅))
    ⟨hl,h⟩⟩)
theorem mO:wO (λA a b=>mJ A (binaryOp .Mult a b)) gx:=by
 intro A env ι q s a b ca cb C ha R h1 h2
 cases a with
 | int i =>
  cases b with
  | int j =>
   obtain ⟨t,rfl⟩:=h1;obtain ⟨u,rfl⟩:=h2
   unfold gx;dsimp only
   split
   ·exact bg.ret R ⟨_,rfl⟩ λQ E hQ=>P.mul_int hQ (by assumption)
   ·trivial
  | _=>trivial
 | ref i =>
  cases b with
  | int n =>
   obtain ⟨x,hx,rfl⟩:=h1;obtain ⟨u,rfl⟩:=h2
   unfold gx;dsimp only
   cases e1:q.H[i]? with
   | none=>trivial
   | some o =>
    cases o with
    | list xs =>
     dsimp only
     split
     ·rename_i hl
      refine bP λY9 y9=> ?_
      obtain ⟨a1,n1,vs,g1,g2,g3⟩:=R.st.list e1
      refine y9 ?_
      obtain rfl:x=a1:=Option.some.inj (hx.symm.trans g1)
      haveI hv:vs.length=1:=g3.length.trans hl.1
      refine bg.newList (β:=Value) (tk:=s.toks) R (zC g3 n.toNat) λQ E hQ=>Gv g2 (Kf (hl.2.1)) (I7 (bQ 0xf42400a090f4240a0811 hl.2.2)) (by rw [aaL,hv,Nat.one_mul];exact aam (Int.toNat_le.mpr hl.2.2) (by decide:1000000<=2 ^ 24)) ?_
      haveI:(List.foldl (λx1 x2=>x1++x2) #[] (List.replicate (if vs.toArray.isEmpty=true then 0 else n.toNat) vs.toArray))=(List.replicate n.toNat vs).flatten.toArray:=listMul_foldl_if ..
      rw [this]
      exact hQ
     ·trivial
    | _=>trivial
  | _=>trivial
 | _=>trivial
end
noncomputable def dX {α β:Type} (f:α->Option β):List α->Option (List β)
 | []=>some []
 | x::xs=>(f x).bind λd=>(dX f xs).map (d :: ·)
noncomputable def toD (H:Hp):Nat->V->Option PyData
 | 0,_=>none
 | n+1,v=>match v with
  | .none=>some .none
  | .bool b=>some (.bool b)
  | .int i=>some (.int i)
  | .str x=>some (.str (Str.ofString x))
  | .tup xs=>(dX (toD H n) xs).map .tuple
  | .ref i=>match H[i]? with
   | some (.list xs)=>(dX (toD H n) xs).map .list
   | _=>none
  | _=>none
section
variable {hq:Bool} {k:Nat} {env:Env} {A:Around} {ι:List Addr} {q:S} {s:Shared} {H:Hp} {h:Heap}
theorem gQ {n:Nat} (ih:∀ {v:V} {cv:Value} {d:PyData},aT ι h v cv->toD H n v=some d-> ∃as,Reads h cv d as) :
  ∀ {xs:List V} {vs:List Value} {ds:List PyData},aX ι h xs vs->dX (toD H n) xs=some ds-> ∃as,ReadsAll h vs ds as
 | [],_,_,x,e=>by rw [show _=[] from x];cases e;exact ⟨_,.nil⟩
 | v::xs,_,_,z3,e=>by
  refine bP λY9 y9=> ?_
  obtain ⟨cv,vs',q,a,b⟩:=z3
  subst q
  obtain ⟨d,h1,h2⟩:=Option.bind_eq_some_iff.mp e
  obtain ⟨ds,h3,rfl⟩:=Option.map_eq_some_iff.mp h2
  obtain ⟨as,r1⟩:=ih a h1
  obtain ⟨bs,r2⟩:=gQ ih b h3
  refine y9 ?_
  exact ⟨_,.cons r1 r2⟩
theorem gb (x:eX ι H h):∀ {n:Nat} {v:V} {cv:Value} {d:PyData},aT ι h v cv->toD H n v=some d-> ∃as,Reads h cv d as
 | 0,_,_,_,_,e=>by cases e
 | n+1,v,cv,d,r,e=>by
  have ih:= @gb x n
  cases v with
  | none=>cases e;rw [show cv= .none from r];exact ⟨_,.none⟩
  | bool b=>cases e;rw [show cv= .bool b from r];exact ⟨_,.bool b⟩
  | int i=>cases e;obtain ⟨t,rfl⟩:=r;exact ⟨_,.int i t⟩
  | str y=>cases e;obtain ⟨t,rfl⟩:=r;exact ⟨_,.str _ t⟩
  | tup xs =>
   change (dX (toD H n) xs).map PyData.tuple=some d at e
   refine bP λY9 y9=> ?_
   obtain ⟨ds,h1,rfl⟩:=Option.map_eq_some_iff.mp e
   obtain ⟨a,vs,rfl,⟨o,ho,hc,n',hd⟩,hv⟩:=r
   obtain ⟨as,ra⟩:=gQ ih hv h1
   refine y9 ?_
   exact ⟨_,.tuple ho hc hd (by simpa using ra)⟩
  | ref i =>
   change (match H[i]? with | some (.list xs)=>(dX (toD H n) xs).map PyData.list | _=>none)=some d at e
   cases hx:H[i]? with
   | none=>rw [hx] at e;cases e
   | some o =>
   rw [hx] at e
   cases o with
   | list xs =>
    refine bP λY9 y9=> ?_
    obtain ⟨ds,h1,rfl⟩:=Option.map_eq_some_iff.mp e
    obtain ⟨a,n',vs,g1,g2,g3⟩:=x.list hx
    obtain ⟨a',e1,rfl⟩:=r
    refine y9 ?_
    obtain rfl:a'=a:=Option.some.inj (e1.symm.trans g1)
    obtain ⟨as,ra⟩:=gQ ih g3 h1
    exact ⟨_,.list g2 rfl rfl (by simpa using ra)⟩
   | _=>cases e
  | inst c i=>cases e
  | exc c=>cases e
  | scr=>cases e
noncomputable def D4 (H:Hp) (a b:V):Option Bool:=(toD H 8 a).bind λd=>(toD H 8 b).bind λe=>if SeqAt.shaped d&&SeqAt.shaped e then some (PyData.eqv d e) else none
noncomputable def I8 (H:Hp) (a:V) (xs:List V):Option Bool:=(toD H 8 a).bind λd=>(dX (toD H 8) xs).bind λds=>if SeqAt.shaped d&&SeqAt.shaped (.list ds) then some (ds.any λy=>PyData.eqv y d) else none
noncomputable def ko (a b:V):Cm Bool:=λq=>match D4 q.H a b with | some x=> .ok x q | none=> .stuck
noncomputable def un (a b:V):Cm Bool:=λq=>match b with
 | .ref i=>(match q.H[i]?,a with
  | some (.list xs),_=>(match I8 q.H a xs with | some x=> .ok x q | none=> .stuck)
  | some (.dict es),.int k=> .ok ((es.lookup k).isSome) q
  | _,_=> .stuck)
 | _=> .stuck
noncomputable def isNone:V->Bool
 | .none=>true
 | _=>false
noncomputable def E7 (f:Int->Int->Bool) (a b:V):Cm Bool:=match a,b with | .int i,.int j=> .p (f i j) | _,_=> .stk
noncomputable def dE (op:CmpOp) (a b:V):Cm Bool:=match op with
 | .Eq=>ko a b
 | .NotEq=>(ko a b).b λx=> .p (!x)
 | .Lt=>E7 (λi j=>decide (i<j)) a b
 | .LtE=>E7 (λi j=>decide (i<=j)) a b
 | .Gt=>E7 (λi j=>decide (i>j)) a b
 | .GtE=>E7 (λi j=>decide (i>=j)) a b
 | .Is=>(match b with | .none=> .p (isNone a) | _=> .stk)
 | .IsNot=>(match b with | .none=> .p (!isNone a) | _=> .stk)
 | .In=>un a b
 | .NotIn=>(un a b).b λx=> .p (!x)
theorem lg.units_lt (ha:∃hq k,lg hq k A env):A.units+100<cLine:=by
 obtain ⟨hq,k,ha⟩:=ha
 haveI:=ha.units
 show A.units+100<9900
 exact cM 0x26aca000064a0c1002328a132d0c011 this
theorem xE {v:V} {cv:Value} (r:aT ι h v cv):(cv == .none)=isNone v:=by
 cases v with
 | none=>rw [show cv= .none from r];rfl
 | bool b=>rw [show cv= .bool b from r];rfl
 | int i=>obtain ⟨t,rfl⟩:=r;rfl
 | str y=>obtain ⟨t,rfl⟩:=r;rfl
 | tup xs=>obtain ⟨a,vs,rfl,_⟩:=r;rfl
 | ref i=>obtain ⟨a,_,rfl⟩:=r;rfl
 | inst c i=>obtain ⟨a,x,C,o,_,_,rfl,_⟩:=r;rfl
 | exc c=>obtain ⟨x,C,o,_,rfl,_⟩:=r;rfl
 | scr=>rw [show cv= .ref G.sa from r];rfl
abbrev HR:List Addr->Heap->Bool->Value->Prop:=λ_ _ x cv=>cv= .bool x
theorem io:∀ {es:List (Int×V)} {kvs:List (Int×Value)},kf ι h es kvs-> ∀(k:Int),(match es.lookup k with | some v=> ∃cv,valueAt kvs k=some cv/\aT ι h v cv | none=>valueAt kvs k=none)
 | [],_,x,k=>by rw [show _=[] from x];rfl
 | (k',v)::es,_,z2,k=>by
  obtain ⟨cv,kvs',q,a,b⟩:=z2
  subst q
  haveI ih:=io b k
  rw [List.lookup_cons]
  unfold valueAt
  by_cases e:k=k'
  ·subst e;simp;exact a
  ·haveI:(k==k')=false:=by simpa using e
   rw [this]
   have e':¬(k'=k):=λx=>e x.symm
   simp only [e',if_false]
   first | exact ih | simpa [valueAt,e'] using ih
end
section
variable {hq:Bool} {k:Nat} {env:Env} {A:Around} {ι:List Addr} {q:S} {s:Shared} {H:Hp} {h:Heap}
theorem sH (C:bJ G) (R:eX ι H h) {a:Addr} (ha:a∈ι):(a==sysModules)=false:=by
 refine bP λY9 y9=> ?_
 obtain ⟨mm,⟨o,_,_,ho,_⟩,_⟩:=C.seer.mods
 refine y9 ?_
 refine beq_eq_false_iff_ne.mpr λe=> ?_
 have:=R.fresh a ha
 rw [e,ho] at this;cases this
theorem zx {a b:V} {x:Bool} (e:D4 H a b=some x):∃d f,A5 (toD H 8 a=some d) (toD H 8 b=some f) (SeqAt.shaped d=true) (SeqAt.shaped f=true) (x=PyData.eqv d f):=by
 obtain ⟨d,h1,e⟩:=Option.bind_eq_some_iff.mp e
 obtain ⟨f,h2,e⟩:=Option.bind_eq_some_iff.mp e
 split at e
 ·rename_i h;cases e;obtain ⟨h3,h4⟩:=aaH.mp h;exact ⟨d,f,h1,h2,h3,h4,rfl⟩
 ·cases e
theorem EI {a:V} {xs:List V} {x:Bool} (e:I8 H a xs=some x):∃d ds,A5 (toD H 8 a=some d) (dX (toD H 8) xs=some ds) (SeqAt.shaped d=true) (SeqAt.shaped (.list ds)=true) (x=ds.any λy=>PyData.eqv y d):=by
 obtain ⟨d,h1,e⟩:=Option.bind_eq_some_iff.mp e
 obtain ⟨f,h2,e⟩:=Option.bind_eq_some_iff.mp e
 split at e
 ·rename_i h;cases e;obtain ⟨h3,h4⟩:=aaH.mp h;exact ⟨d,f,h1,h2,h3,h4,rfl⟩
 ·cases e
theorem xf {P:Prop} (h:∀X:Prop,(P->X)->X):P:=h P id
theorem BW {f:Int->Int->Bool} {op:CmpOp} {a b:V} {ca cb:Value} (R:cJ A env ι q s) (h1:aT ι s.heap a ca) (h2:aT ι s.heap b cb) (hT:∀ {i j:Int} {t u:Tok} {Q E},Q (.bool (f i j)) s->wpAny G.M A (compareOp op (.int i t) (.int j u)) Q E s) :
  bg A env ι s (E7 f a b q) HR (mJ A (compareOp op ca cb)):=by
 cases a with
 | int i =>
  cases b with
  | int j =>
   obtain ⟨t,rfl⟩:=h1;obtain ⟨u,rfl⟩:=h2
   exact bg.ret0 R rfl λQ E hQ=>hT hQ
  | _=>trivial
 | _=>trivial
theorem EJ {a b:V} {ca cb:Value} (C:bJ G) (hu:A.units+100<cLine) (st:eX ι q.H s.heap) (h1:aT ι s.heap a ca) (h2:aT ι s.heap b cb):un a b q= .stuck\/ ∃x,un a b q= .ok x q /\
  (∀ {Q E},(∀tk,Q (.bool x) { s with toks:=tk })->wpAny G.M A (compareOp .In ca cb) Q E s)/\ ∀ {Q E},(∀tk,Q (.bool (!x)) { s with toks:=tk })->wpAny G.M A (compareOp .NotIn ca cb) Q E s:=by
 refine xf λG' kG=> ?_
 cases b with
 | ref i =>
  obtain ⟨ad,hi,rfl⟩:=h2
  cases hx:q.H[i]? with
  | none=>exact kG (.inl (by unfold un;dsimp only;rw [hx]))
  | some o =>
  cases o with
  | list xs =>
   cases hy:I8 q.H a xs with
   | none=>exact kG (.inl (by unfold un;dsimp only;rw [hx];dsimp only;rw [hy]))
   | some y =>
    obtain ⟨d,ds,e1,e2,e3,e4,ey⟩:=EI hy
    obtain ⟨as,r1⟩:=gb st h1 e1
    obtain ⟨a1,n1,vs,g1,g2,g3⟩:=st.list hx
    obtain rfl:ad=a1:=Option.some.inj (hi.symm.trans g1)
    obtain ⟨bs,r2⟩:=gQ (gb st) g3 e2
    have r3:Reads s.heap (.ref ad) (.list ds) _:= .list g2 rfl rfl (by simpa using r2)
    refine kG (.inr ⟨y,by unfold un;dsimp only;rw [hx];dsimp only;rw [hy],λhQ=> ?_,λhQ=> ?_⟩)
    ·exact SeqAt.in_list_reads r3 r1 (SeqAt.canLay_of_shaped e4) (SeqAt.canLay_of_shaped e3) (room_in_shaped e3 (cM 0x1000041a0c11000064a0c111 hu)) (ey▸hQ s.toks)
    ·exact SeqAt.notIn_list_reads r3 r1 (SeqAt.canLay_of_shaped e4) (SeqAt.canLay_of_shaped e3) (room_in_shaped e3 (cM 0x1000041a0c11000064a0c111 hu)) (ey▸hQ s.toks)
  | dict es =>
   cases a with
   | int k0 =>
    obtain ⟨t,rfl⟩:=h1
    obtain ⟨a1,kvs,g1,g2,g3⟩:=st.dict hx
    obtain rfl:ad=a1:=Option.some.inj (hi.symm.trans g1)
    have hm:=sH C st (aaN g1)
    have hv:=io g3 k0
    have hs:(valueAt kvs k0).isSome=(es.lookup k0).isSome:=by
     cases hl:es.lookup k0 with
     | none=>rw [hl] at hv;rw [hv];rfl
     | some v=>rw [hl] at hv;obtain ⟨cv,hv,_⟩:=hv;rw [hv];rfl
    refine kG (.inr ⟨(es.lookup k0).isSome,by unfold un;dsimp only;rw [hx],λhQ=> ?_,λhQ=> ?_⟩)
    ·exact wpAny_in_of (intKind_is G.prog G.w k0 t) hm g2.mapOf (by rw [hs];exact hQ _)
    ·exact wpAny_notIn_of (intKind_is G.prog G.w k0 t) hm g2.mapOf (by rw [hs];exact hQ _)
   | _=>exact kG (.inl (by unfold un;dsimp only;rw [hx]))
  | flds _=>exact kG (.inl (by unfold un;dsimp only;rw [hx]))
 | _=>exact kG (.inl rfl)
theorem wN (op:CmpOp) {a b:V} {ca cb:Value} (C:bJ G) (ha:∃hq k,lg hq k A env) (R:cJ A env ι q s) (h1:aT ι s.heap a ca) (h2:aT ι s.heap b cb) :
  bg A env ι s (dE op a b q) HR (mJ A (compareOp op ca cb)):=by
 have hu:=lg.units_lt ha
 have hEq:∀ {x:Bool},D4 q.H a b=some x-> ∀ {Q E},Q (.bool x) s->wpAny G.M A (compareOp .Eq ca cb) Q E s:=λ{x} e {Q E} hQ=>by
  refine bP λY9 y9=> ?_
  obtain ⟨d,f,e1,e2,e3,e4,rfl⟩:=zx e
  obtain ⟨as,r1⟩:=gb R.st h1 e1
  obtain ⟨bs,r2⟩:=gb R.st h2 e2
  refine y9 ?_
  exact eq_dataH r1 r2 e3 e4 (cM 0x1000040a0c11000064a0c111 hu) hQ
 have hNe:∀ {x:Bool},D4 q.H a b=some x-> ∀ {Q E},Q (.bool (!x)) s->wpAny G.M A (compareOp .NotEq ca cb) Q E s:=λ{x} e {Q E} hQ=>by
  refine bP λY9 y9=> ?_
  obtain ⟨d,f,e1,e2,e3,e4,rfl⟩:=zx e
  obtain ⟨as,r1⟩:=gb R.st h1 e1
  obtain ⟨bs,r2⟩:=gb R.st h2 e2
  refine y9 ?_
  exact ne_dataH r1 r2 e3 e4 (cM 0x1000040a0c11000064a0c111 hu) hQ
 cases op with
 | Eq =>
  show bg A env ι s (ko a b q) _ _
  unfold ko
  cases e:D4 q.H a b with
  | none=>trivial
  | some x=>exact bg.ret0 R rfl λQ E hQ=>hEq e hQ
 | NotEq =>
  show bg A env ι s (((ko a b).b λx=> .p (!x)) q) _ _
  unfold ko Cm.b
  cases e:D4 q.H a b with
  | none=>dsimp only;rw [e];trivial
  | some x=>dsimp only;rw [e];exact bg.ret0 (REL:=HR) R rfl λQ E hQ=>hNe e hQ
 | Lt=>exact BW R h1 h2 λhQ=>P.lt_int hQ
 | LtE=>exact BW R h1 h2 λhQ=>P.le_int hQ
 | Gt=>exact BW R h1 h2 λhQ=>P.gt_int hQ
 | GtE=>exact BW R h1 h2 λhQ=>P.ge_int hQ
 | Is =>
  cases b with
  | none =>
   rw [show cb= .none from h2]
   exact bg.ret0 R rfl λQ E hQ=>is_none (by rw [xE h1];exact hQ)
  | _=>trivial
 | IsNot =>
  cases b with
  | none =>
   rw [show cb= .none from h2]
   exact bg.ret0 R rfl λQ E hQ=>isNot_none (by rw [xE h1];exact hQ)
  | _=>trivial
 | In =>
  show bg A env ι s (un a b q) _ _
  rcases EJ C hu R.st h1 h2 with e | ⟨x,e,h3,_⟩
  ·rw [e];trivial
  ·rw [e];exact λQ E hQ=>h3 λtk=>hQ ι _ _ (bh.toks R tk) rfl
 | NotIn =>
  show bg A env ι s (((un a b).b λx=> .p (!x)) q) _ _
  rcases EJ C hu R.st h1 h2 with e | ⟨x,e,_,h3⟩
  ·rw [cE e];trivial
  ·rw [fB e];exact λQ E hQ=>h3 λtk=>hQ ι _ _ (bh.toks R tk) rfl
noncomputable def bi:V->Cm Bool
 | .bool b=> .p b
 | _=> .stk
theorem xN {v:V} {cv:Value} (R:cJ A env ι q s) (h1:aT ι s.heap v cv):bg A env ι s (bi v q) (λ_ _ x y=>x=y) (mJ A (truthy cv)):=by
 cases v with
 | bool b=>rw [show cv= .bool _ from h1];exact bg.ret0 R rfl λQ E hQ=>wpAny_truthy_bool hQ
 | _=>trivial
theorem ze {x:Bool} {cv:Value} (R:cJ A env ι q s) (h1:cv= .bool x):bg A env ι s (.ok x q) (λ_ _ x y=>x=y) (mJ A (truthy cv)):=by
 subst h1;exact bg.ret0 R rfl λQ E hQ=>wpAny_truthy_bool hQ
theorem wL (C:bJ G) {l r:Expr} {op:CmpOp} {pos:Pos} {m1 m2:Cm V} (h1:Ev hq k env l m1) (h2:Ev hq k env r m2) (hm:behindInMarks op r=false:=by kernel_rfl) :
  Ev hq k env (.Compare l [op] [r] pos) (m1.b λa=>m2.b λb=>(dE op a b).b λx=> .p (.bool x)) :=
 λA ι q s ha R=>(bg.b (h1 A ι q s ha R) λa q' ι' b s' _ P hv=>bg.b (T':=λb' Q E s₂=>wpAny G.M A (compareOp op b b') Q E s₂) (h2 A ι' q' s' ha P.rel) λa2 q2 ι2 b2 s2 _ P2 hv2 =>
  (bg.b (T':=λc Q E s=>Q c s) (wN op C ⟨_,_,ha⟩ P2.rel (P2.vrel P.rel hv) hv2) λx q3 ι3 c s3 _ P3 hc=>bg.ret0 P3.rel (hc▸vI x) λQ E hQ=>hQ)).imp λQ E x=>wpAny_Compare1 x hm
theorem ba (C:bJ G) {l r:Expr} {op:CmpOp} {pos:Pos} {m1 m2:Cm V} (h1:Ev hq k env l m1) (h2:Ev hq k env r m2) (hm:behindInMarks op r=false:=by kernel_rfl) :
  Tr hq k env (.Compare l [op] [r] pos) (m1.b λa=>m2.b λb=>(dE op a b).b λx=> .p x) :=
 λA ι q s ha R=>(bg.b (h1 A ι q s ha R) λa q' ι' b s' _ P hv=>bg.b (T':=λb' Q E s₂=>wpAny G.M A (compareOp op b b') (λc s₃=>wpAny G.M A (truthy c) Q E s₃) E s₂) (h2 A ι' q' s' ha P.rel) λa2 q2 ι2 b2 s2 _ P2 hv2 =>
  (bg.b (T':=λc Q E s=>wpAny G.M A (truthy c) Q E s) (wN op C ⟨_,_,ha⟩ P2.rel (P2.vrel P.rel hv) hv2) λx q3 ι3 c s3 _ P3 hc=>ze P3.rel hc)).imp λQ E x=>wpAny_isTrue_Compare1 x hm
theorem Ec (C:bJ G) {l r1 r2:Expr} {o1 o2:CmpOp} {pos:Pos} {m0 m1 m2:Cm V} (h0:Ev hq k env l m0) (h1:Ev hq k env r1 m1) (h2:Ev hq k env r2 m2) (hm:lastMarks [o1,o2] [r1,r2]=false) :
  Tr hq k env (.Compare l [o1,o2] [r1,r2] pos) (m0.b λa=>m1.b λb=>(dE o1 a b).b λx=>if x then m2.b λc=>(dE o2 b c).b λy=> .p y else .p false):=by
 intro A ι q s ha R
 refine (bg.b (T':=λa Q E s₁=>wpAny G.M A (eval r1 env) (λb s₁=>wpAny G.M A (compareOp o1 a b) (λc s₂=>wpAny G.M A (truthy c)
   (λt s₃=>if t then wpAny G.M A (testChain pos b [o2] [eval r2 env]) Q E s₃ else Q false s₃) E s₂) E s₁) E s₁) (h0 A ι q s ha R) λa q' ι' b s' _ P hv=> ?_).imp λQ E x=>isTrue_chain (wpAny_mono x (λa s₁ y=>test_link y) λ_ _ y=>y) hm
 refine bg.b (T':=λb' Q E s₁=>wpAny G.M A (compareOp o1 b b') (λc s₂=>wpAny G.M A (truthy c)
   (λt s₃=>if t then wpAny G.M A (testChain pos b' [o2] [eval r2 env]) Q E s₃ else Q false s₃) E s₂) E s₁) (h1 A ι' q' s' ha P.rel) λa2 q2 ι2 b2 s2 _ P2 hv2=> ?_
 refine bg.b (T':=λc Q E s₂=>wpAny G.M A (truthy c) (λt s₃=>if t then wpAny G.M A (testChain pos b2 [o2] [eval r2 env]) Q E s₃ else Q false s₃) E s₂) (wN o1 C ⟨_,_,ha⟩ P2.rel (P2.vrel P.rel hv) hv2) λx q3 ι3 c s3 _ P3 hc=> ?_
 subst hc
 cases x with
 | false=>exact bg.ret0 P3.rel rfl λQ E hQ=>wpAny_truthy_bool hQ
 | true =>
  refine (bg.b (T':=λc' Q E s₁=>wpAny G.M A (compareOp o2 b2 c') (λd s₂=>wpAny G.M A (truthy d) Q E s₂) E s₁) (h2 A ι3 q3 s3 ha P3.rel) λa4 q4 ι4 b4 s4 _ P4 hv4=> ?_).imp λQ E y=>wpAny_truthy_bool (test_last y)
  exact bg.b (T':=λc Q E s=>wpAny G.M A (truthy c) Q E s) (wN o2 C ⟨_,_,ha⟩ P4.rel (P4.vrel P3.rel (P3.vrel P2.rel hv2)) hv4) λx q5 ι5 c s5 _ P5 hc=>ze P5.rel hc
theorem AU (C:bJ G) {l r1 r2:Expr} {o1 o2:CmpOp} {pos:Pos} {m0 m1 m2:Cm V} (h0:Ev hq k env l m0) (h1:Ev hq k env r1 m1) (h2:Ev hq k env r2 m2) (hm:lastMarks [o1,o2] [r1,r2]=false) :
  Ev hq k env (.Compare l [o1,o2] [r1,r2] pos) (m0.b λa=>m1.b λb=>(dE o1 a b).b λx=>if x then m2.b λc=>(dE o2 b c).b λy=> .p (.bool y) else .p (.bool false)):=by
 intro A ι q s ha R
 refine (bg.b (T':=λa Q E s₁=>wpAny G.M A (eval r1 env) (λb s₁=>wpAny G.M A (compareOp o1 a b) (λc s₂=>wpAny G.M A (truthy c)
   (λt s₃=>if t then wpAny G.M A (compareChain pos b [o2] [eval r2 env]) Q E s₃ else Q c s₃) E s₂) E s₁) E s₁) (h0 A ι q s ha R) λa q' ι' b s' _ P hv=> ?_).imp λQ E x=>Compare_chain (wpAny_mono x (λa s₁ y=>chain_link y) λ_ _ y=>y) hm
 refine bg.b (T':=λb' Q E s₁=>wpAny G.M A (compareOp o1 b b') (λc s₂=>wpAny G.M A (truthy c)
   (λt s₃=>if t then wpAny G.M A (compareChain pos b' [o2] [eval r2 env]) Q E s₃ else Q c s₃) E s₂) E s₁) (h1 A ι' q' s' ha P.rel) λa2 q2 ι2 b2 s2 _ P2 hv2=> ?_
 refine bg.b (T':=λc Q E s₂=>wpAny G.M A (truthy c) (λt s₃=>if t then wpAny G.M A (compareChain pos b2 [o2] [eval r2 env]) Q E s₃ else Q c s₃) E s₂) (wN o1 C ⟨_,_,ha⟩ P2.rel (P2.vrel P.rel hv) hv2) λx q3 ι3 c s3 _ P3 hc=> ?_
 subst hc
 cases x with
 | false=>exact bg.ret0 P3.rel (vI false) λQ E hQ=>wpAny_truthy_bool hQ
 | true =>
  refine (bg.b (T':=λc' Q E s₁=>wpAny G.M A (compareOp o2 b2 c') Q E s₁) (h2 A ι3 q3 s3 ha P3.rel) λa4 q4 ι4 b4 s4 _ P4 hv4=> ?_).imp λQ E y=>wpAny_truthy_bool (chain_last y)
  exact bg.b (T':=λc Q E s=>Q c s) (wN o2 C ⟨_,_,ha⟩ P4.rel (P4.vrel P3.rel (P3.vrel P2.rel hv2)) hv4) λx q5 ι5 c s5 _ P5 hc=>bg.ret0 P5.rel (hc▸vI x) λQ E hQ=>hQ
theorem eZ {x:Expr} {pos:Pos} {m:Cm Bool} (h1:Tr hq k env x m):Tr hq k env (.UnaryOp .Not x pos) (m.b λb=> .p (!b)) :=
 λA ι q s ha R=>(bg.b (T':=λb Q E s₁=>Q (!b) s₁) (h1 A ι q s ha R) λa q' ι' b s' _ P hv=>bg.ret0 P.rel (hv▸rfl) λQ E hQ=>hQ).imp λQ E x=>wpAny_isTrue_Not x
theorem BS {x:Expr} {pos:Pos} {m:Cm V} (h1:Ev hq k env x m):Ev hq k env (.UnaryOp .Not x pos) (m.b λv=>(bi v).b λb=> .p (.bool (!b))) :=
 λA ι q s ha R=>(bg.b (T':=λv Q E s₁=>wpAny G.M A (truthy v) (λb s₁=>Q (.bool (!b)) s₁) E s₁) (h1 A ι q s ha R) λa q' ι' b s' _ P hv =>
  bg.b (T':=λb Q E s₁=>Q (Value.bool (!b)) s₁) (xN P.rel hv) λa2 q2 ι2 b2 s2 _ P2 hv2=>by subst hv2;exact bg.ret0 P2.rel (vI _) λQ E hQ=>hQ).imp λQ E x=>wpAny_UnaryOp (wpAny_mono x (λv s₁ y=>not_value y) λ_ _ y=>y)
noncomputable def Dx:V->Cm V
 | .int i=> .p (.int (-i))
 | _=> .stk
theorem y8 {x:Expr} {pos:Pos} {m:Cm V} (h1:Ev hq k env x m):Ev hq k env (.UnaryOp .USub x pos) (m.b λv=>Dx v) :=
 λA ι q s ha R=>(bg.b (T':=λv Q E s₁=>wpAny G.M A (unaryOp .USub v) Q E s₁) (h1 A ι q s ha R) λa q' ι' b s' _ P hv=>by
  cases a with
  | int i=>obtain ⟨t,rfl⟩:=hv;exact bg.ret P.rel (yV _ _) λQ E hQ=>PySem.P.neg_int hQ
  | _=>trivial).imp λQ E x=>wpAny_UnaryOp x
theorem dy {e:Expr} {m:Cm V} (h1:Ev hq k env e m) (he:isTrue e env (eval e env)=(do let v <- eval e env;standAt e.pos;holding [v] (truthy v)):=by rfl):Tr hq k env e (m.b λv=>bi v) :=
 λA ι q s ha R=>(bg.b (T':=λv Q E s₁=>wpAny G.M A (truthy v) Q E s₁) (h1 A ι q s ha R) λa q' ι' b s' _ P hv=>xN P.rel hv).imp λQ E x=>wpAny_isTrue_value x he
abbrev HQ (hq:Bool) (k:Nat) (env:Env) (op:BoolOp) (es:List Expr) (m:Cm Bool):Prop:=Sem.Is hq k env (λA=>mJ A (allTrue op es env)) m (λ_ _ a b=>a=b)
theorem lh:HQ hq k env .And [] (.p true):=λA ι q s ha R=>bg.ret0 R rfl λQ E hQ=>wpAny_allTrue_And_nil hQ
theorem jQ:HQ hq k env .Or [] (.p false):=λA ι q s ha R=>bg.ret0 R rfl λQ E hQ=>wpAny_allTrue_Or_nil hQ
theorem fy {x:Expr} {es:List Expr} {m m':Cm Bool} (h1:Tr hq k env x m) (h2:HQ hq k env .And es m'):HQ hq k env .And (x::es) (m.b λb=>if b then m' else .p false) :=
 λA ι q s ha R=>(bg.b (T':=λb Q E s₁=>if b then wpAny G.M A (allTrue .And es env) Q E s₁ else Q false s₁) (h1 A ι q s ha R) λa q' ι' b s' _ P hv=>by
  subst hv
  cases a with
  | true=>exact (h2 A ι' q' s' ha P.rel).imp λQ E x=>x
  | false=>exact bg.ret0 P.rel rfl λQ E hQ=>hQ).imp λQ E x=>wpAny_allTrue_And_cons x
theorem eY {x:Expr} {es:List Expr} {m m':Cm Bool} (h1:Tr hq k env x m) (h2:HQ hq k env .Or es m'):HQ hq k env .Or (x::es) (m.b λb=>if b then .p true else m') :=
 λA ι q s ha R=>(bg.b (T':=λb Q E s₁=>if b then Q true s₁ else wpAny G.M A (allTrue .Or es env) Q E s₁) (h1 A ι q s ha R) λa q' ι' b s' _ P hv=>by
  subst hv
  cases a with
  | true=>exact bg.ret0 P.rel rfl λQ E hQ=>hQ
  | false=>exact (h2 A ι' q' s' ha P.rel).imp λQ E x=>x).imp λQ E x=>wpAny_allTrue_Or_cons x
theorem d9 {op:BoolOp} {es:List Expr} {pos:Pos} {m:Cm Bool} (h1:HQ hq k env op es m):Tr hq k env (.BoolOp op es pos) m :=
 λA ι q s ha R=>(h1 A ι q s ha R).imp λQ E x=>wpAny_isTrue_BoolOp x
abbrev JG (hq:Bool) (k:Nat) (env:Env) (op:BoolOp) (es:List Expr) (m:Cm V):Prop:= ∀pos,Sem.Is hq k env (λA=>mJ A (boolOp pos op (evalEach es env))) m (aT)
theorem pj {op:BoolOp} {e:Expr} {m:Cm V} (h1:Ev hq k env e m):JG hq k env op [e] m:=λpos A ι q s ha R=>(h1 A ι q s ha R).imp λQ E x=>x
theorem mL {x y:Expr} {es:List Expr} {m m':Cm V} (h1:Ev hq k env x m) (h2:JG hq k env .And (y::es) m') :
  JG hq k env .And (x::y::es) (m.b λv=>(bi v).b λb=>if b then m' else .p v):=λpos A ι q s ha R=>by
 refine (bg.b (T':=λv Q E s₁=>wpAny G.M A (truthy v) (λt s₂=>if t then wpAny G.M A (boolOp pos .And (evalEach (y::es) env)) Q E s₂ else Q v s₂) E s₁) (h1 A ι q s ha R) λa q' ι' b s' _ P hv =>
  bg.b (T':=λt Q E s₂=>if t then wpAny G.M A (boolOp pos .And (evalEach (y::es) env)) Q E s₂ else Q b s₂) (xN P.rel hv) λa2 q2 ι2 b2 s2 _ P2 hv2=> ?_).imp λQ E x=> ?_
 ·subst hv2
  cases a2 with
  | true=>exact (h2 pos A ι2 q2 s2 ha P2.rel).imp λQ E x=>x
  | false=>exact bg.ret0 P2.rel (P2.vrel P.rel hv) λQ E hQ=>hQ
 ·show wpAny G.M A (do
   let v <- eval _ env
   standAt pos
   let t <- holding [v] (truthy v)
   match BoolOp.And,t with
   | .And,false | .Or,true=>pure v
   | _,_=>boolOp pos .And (evalEach (y::es) env)) Q E s
  refine wpAny_bind (wpAny_mono x (λv s₁ h₁=>wpAny_bind (wpAny_standAt (wpAny_bind (wpAny_holding (wpAny_mono h₁ (λt s₂ h₂=> ?_) λ_ _ x=>x))))) λ_ _ x=>x)
  cases t with
  | false=>exact wpAny_pure h₂
  | true=>exact h₂
theorem iN {op:BoolOp} {es:List Expr} {pos:Pos} {m:Cm V} (h1:JG hq k env op es m):Ev hq k env (.BoolOp op es pos) m :=
 λA ι q s ha R=>(h1 pos A ι q s ha R).imp λQ E x=>x
end
section
variable {hq:Bool} {k:Nat} {env:Env} {A:Around} {ι:List Addr} {q:S} {s:Shared} {H:Hp} {h:Heap}
theorem bk {α β:Type} [BEq α] [LawfulBEq α] {x:α} {y:β}:∀ {l:List (α×β)},l.lookup x=some y->(x,y)∈l
  | [],e=>by simp at e
  | (a,b)::r,e=>by
   rw [List.lookup_cons] at e
   split at e
   ·rename_i q;cases e;rw [eq_of_beq q];exact .head _
   ·exact .tail _ (bk e)
theorem bh.ownChange (R:cJ A env ι q s) {h':Heap} {tk:Nat} {a:Addr} {l':bw} (ha:a∈own env) (hs:Heap.SameBut a s.heap h')
  (ho:∀o,s.heap.get? a=some o-> ∀es n,o.data= .dict es n-> ∃o',h'.get? a=some o'/\ ∃es n,o'.data= .dict es n)
  (fr':oG s.heap h'->kg env l' ι h' h'):bh A env ι s ι ⟨l',q.H⟩ { s with heap:=h',toks:=tk }:=by
 have ext:=hs.extBut
 have ne:∀b o,s.heap.get? b=some o->b∉own env++ι->h'.get? b=some o:=λb o e hb=>ext b o (λq=>hb (aaK _ (q▸ha))) e
 have im:=R.imm' (h':=h') λb o e hW=>⟨o.slots,ne b o e hW⟩
 haveI kp:Kp (own env++ι) (lB A) s.heap h':=⟨λb o e=>by
   by_cases hb:b=a
   ·subst hb;obtain ⟨o',e',_⟩:=(fr' im).mut (λ_ _ e=>e) ha;exact ⟨o',e'⟩
   ·exact ⟨o,ext b o hb e⟩,λb o e hW=>⟨o.slots,ne b o e hW⟩,λb o e hW _=>ne b o e hW⟩
 have pr:ι<+:ι:=aac _
 have hai:a∉ι:=R.fr.dis a ha
 refine ⟨pr,⟨⟨?_,R.st.len,R.st.nodup,R.st.fresh,?_⟩,fr' im,?_,R.gens,R.os,R.hn.imm im⟩,kp,λ_ h=> .inl h⟩
 ·intro b o e
  exact ext b o (λq=>by rw [q,R.fr.fresh a ha] at e;cases e) (R.st.keep b o e)
 ·intro j x y e1 e2
  exact (R.st.obj j x y e1 e2).at pr im λo e=>ext x o (λq=>hai (q▸aaN e1)) e
 ·intro env' he
  refine bP λY9 y9=> ?_
  obtain ⟨b1,L,o',b2,b3,⟨es,n,b4⟩,b5,b6⟩:=R.fs env' he
  refine y9 ?_
  by_cases hL:L=a
  ·subst hL
   refine bP λY9 y9=> ?_
   obtain ⟨o2,c1,es',n',c2⟩:=ho o' b3 es n b4
   refine y9 ?_
   exact ⟨b1,L,o2,b2,c1,⟨es',n',c2⟩,b5,b6⟩
  ·exact ⟨b1,L,o',b2,ext L o' hL b3,⟨es,n,b4⟩,b5,b6⟩
theorem nP {l:bw} {x y:String} {v w:V} (e:upd l x v y=some w):(y=x/\w=v)\/(y≠x/\l y=some w):=by
 unfold upd at e
 split at e
 ·rename_i h;exact .inl ⟨h,(Option.some.inj e).symm⟩
 ·rename_i h;exact .inr ⟨h,e⟩
def y7 (env:Env) (x:String):Prop:=env.kindOf (Str.ofString x)=some .local\/(env.kindOf (Str.ofString x)=some .cell/\(env.cells.lookup (Str.ofString x)).isSome=true)
theorem nV {x:String} {v:V} {cv:Value} (hx:y7 env x) (R:cJ A env ι q s) (hv:aT ι s.heap v cv) :
  bg A env ι s (.ok () ⟨upd q.l x v,q.H⟩) (λ_ _ _ _=>True) (mJ A (storeName env (Str.ofString x) cv)):=by
 intro Q E hQ
 haveI hp:(env.scope.kind == .class||(env.scope.kind == .module&&env.locals != env.globals))=false:=by rw [R.fr.kind];rfl
 rcases hx with hx | ⟨hx,hc⟩
 ·obtain ⟨m,hn,hm⟩:=R.fr.loc
  refine wpAny_storeName_local hx hn (λh' hn' hs=> ?_) hp
  refine hQ ι () _ (bh.ownChange R (.head _) hs (λo _ es n _=> ?_) λim=> ?_) trivial
  ·obtain ⟨o',es',ep',h1,h2,_⟩:=hn';exact ⟨o',h1,es',ep',h2⟩
  ·have pr:ι<+:ι:=aac _
   refine ⟨R.fr.kind,R.fr.glob,R.fr.blt,⟨_,hn',λy w e1 e2=> ?_⟩,λy w e1 e2=> ?_,λp hp=> ?_,R.fr.ndup,R.fr.dis,R.fr.fresh⟩
   ·rcases nP e1 with ⟨rfl,rfl⟩ | ⟨hne,e1⟩
    ·exact ⟨cv,by simp,hv.mono pr im⟩
    ·obtain ⟨cw,a,b⟩:=hm y w e1 e2
     exact ⟨cw,by rw [if_neg (λq=>hne (f9 q))];exact a,b.mono pr im⟩
   ·rcases nP e1 with ⟨rfl,rfl⟩ | ⟨hne,e1⟩
    ·rw [hx] at e2;rcases e2 with e2 | e2<;>cases e2
    ·obtain ⟨c,o,cw,a,b,d,f⟩:=R.fr.cel y w e1 e2
     refine ⟨c,o,cw,a,hs.extBut c o (λq=> ?_) b,d,f.mono pr im⟩
     obtain ⟨oL,es,ep,hL,hd,_⟩:=hn
     rw [q,hL] at b;cases b;rw [hd] at d;cases d
   ·obtain ⟨o,ov,a,b⟩:=R.fr.cells p hp
    refine ⟨o,ov,hs.extBut p.2 o (λq=> ?_) a,b⟩
    obtain ⟨oL,es,ep,hL,hd,_⟩:=hn
    rw [q,hL] at a;cases a;rw [hd] at b;cases b
 ·obtain ⟨c,hc⟩:=aaQ.mp hc
  have hmem:=bk hc
  have hown:c∈own env:=List.mem_cons_of_mem _ (aag.mpr ⟨_,hmem,rfl⟩)
  obtain ⟨o,ov,h1,h2⟩:=R.fr.cells _ hmem
  refine wpAny_storeName_cell R.fr.kind hx hc ⟨o,h1,h2⟩ (λh' hc' hs=> ?_)
  obtain ⟨o',h3,h4⟩:=hc'
  refine hQ ι () _ (bh.ownChange (tk:=s.toks) R hown hs (λo2 e es n d=> ?_) λim=> ?_) trivial
  ·dsimp only at h1;rw [h1] at e;cases e;rw [h2] at d;cases d
  ·have pr:ι<+:ι:=aac _
   refine ⟨R.fr.kind,R.fr.glob,R.fr.blt,?_,λy w e1 e2=> ?_,λp hp=> ?_,R.fr.ndup,R.fr.dis,R.fr.fresh⟩
   ·obtain ⟨m,hn,hm⟩:=R.fr.loc
    refine ⟨m,hn.sameBut hs (λq=> ?_),λy w e1 e2=> ?_⟩
    ·obtain ⟨oL,es,ep,hL,hd,_⟩:=hn
     dsimp only at h1
     rw [q,h1] at hL;cases hL;rw [h2] at hd;cases hd
    ·rcases nP e1 with ⟨rfl,rfl⟩ | ⟨hne,e1⟩
     ·rw [hx] at e2;cases e2
     ·obtain ⟨cw,a,b⟩:=hm y w e1 e2;exact ⟨cw,a,b.mono pr im⟩
   ·rcases nP e1 with ⟨rfl,rfl⟩ | ⟨hne,e1⟩
    ·exact ⟨c,o',cv,hc,h3,h4,hv.mono pr im⟩
    ·obtain ⟨c2,o2,cw,a,b,d,f⟩:=R.fr.cel y w e1 e2
     refine ⟨c2,o2,cw,a,hs.extBut c2 o2 (λq=> ?_) b,d,f.mono pr im⟩
     subst q
     haveI hm2:=bk a
     exact hne (f9 (congrArg (·.1) (nodup_snd R.fr.ndup hm2 hmem)))
   ·by_cases hpc:p.2=c
    ·exact ⟨o',some cv,by rw [hpc];exact h3,h4⟩
    ·obtain ⟨o2,ov2,a,b⟩:=R.fr.cells p hp
     exact ⟨o2,ov2,hs.extBut p.2 o2 hpc a,b⟩
where
 nodup_snd:∀ {l:List (Str×Addr)} {x y:Str} {c:Addr},(l.map (·.2)).Nodup->(x,c)∈l->(y,c)∈l->((x,c):Str×Addr)=(y,c)
  | [],_,_,_,_,h,_=>nomatch h
  | p::r,x,y,c,hn,h1,h2=>by
   rw [aas,List.nodup_cons] at hn
   rcases aal.mp h1 with e1 | h1<;>rcases aal.mp h2 with e2 | h2
   ·rw [e1,e2]
   ·exact absurd (aag.mpr ⟨_,h2,by rw [<- e1]⟩) hn.1
   ·exact absurd (aag.mpr ⟨_,h1,by rw [<- e2]⟩) hn.1
   ·exact nodup_snd hn.2 h1 h2
theorem zA:wM ι h .next .next:=rfl
noncomputable def a9 (x:String) (v:V):Cm Unit:=λq=> .ok () ⟨upd q.l x v,q.H⟩
theorem au {x:String} {p pos:Pos} {e:Expr} {m:Cm V} (h1:Ev hq k env e m) (hx:y7 env x:=by exact .inl ∅) (hs:swapsWith e (some (.Name (Str.ofString x) p)) pos.line env=pure false:=by rfl) :
  Ex hq k env (.Assign [.Name (Str.ofString x) p] e pos) (m.b λv=>(a9 x v).b λ_=> .p .next) :=
 λA ι q s ha R=>(bg.b (T':=λv Q E s₁=>wpAny G.M A (storeName env (Str.ofString x) v) (λ_=>Q .next) E s₁) (h1 A ι q s ha R) λa q' ι' b s' _ P hv =>
  bg.b (m:=a9 x a) (T':=λ_ Q E s₁=>Q Flow.next s₁) (nV hx P.rel hv) λa2 q2 ι2 b2 s2 _ P2 _=>bg.ret0 (REL:=wM) P2.rel zA λQ E hQ=>hQ).imp λQ E x=>wpAny_Assign_Name x hs
theorem aJ {e:Expr} {pos:Pos} {m:Cm V} (h1:Ev hq k env e m):Ex hq k env (.Return (some e) pos) (m.b λv=> .p (.ret v)) :=
 λA ι q s ha R=>(bg.b (T':=λv Q E s₁=>Q (.ret v) s₁) (h1 A ι q s ha R) λa q' ι' b s' _ P hv=>bg.ret0 P.rel ⟨b,rfl,hv⟩ λQ E hQ=>hQ).imp λQ E x=>wpAny_Return_some x
theorem bK {test:Expr} {body orelse:List Stmt} {pos:Pos} {m:Cm Bool} {m1 m2:Cm Fl} (h0:Tr hq k env test m) (h1:DY hq k env body m1) (h2:DY hq k env orelse m2) :
  Ex hq k env (.If test body orelse pos) (m.b λb=>if b then m1 else m2) :=
 λA ι q s ha R=>(bg.b (T':=λb Q E s₂=>if b then wpAny G.M A (execs body env) Q E s₂ else wpAny G.M A (execs orelse env) Q E s₂) (h0 A ι q s ha R) λa q' ι' b s' _ P hv=>by
  subst hv
  cases a with
  | true=>exact (h1 A ι' q' s' ha P.rel).imp λQ E x=>x
  | false=>exact (h2 A ι' q' s' ha P.rel).imp λQ E x=>x).imp λQ E x=>wpAny_If x
noncomputable def aw (m:Cm Fl) (m':Cm Fl):Cm Fl:=m.b λf=>match f with | .next=>m' | .ret v=> .p (.ret v)
theorem aI:DY hq k env [] (.p .next):=λA ι q s ha R=>bg.ret0 R zA λQ E hQ=>wpAny_execs_nil hQ
theorem ak {st:Stmt} {rest:List Stmt} {m m':Cm Fl} (h1:Ex hq k env st m) (h2:DY hq k env rest m'):DY hq k env (st::rest) (aw m m') :=
 λA ι q s ha R=>(bg.b (T':=λf Q E s'=>match f with | .next=>wpAny G.M A (execs rest env) Q E s' | f=>Q f s') (h1 A ι q s ha R) λa q' ι' b s' _ P hv=>by
  cases a with
  | next=>rw [show b= .next from hv];exact (h2 A ι' q' s' ha P.rel).imp λQ E x=>x
  | ret v=>obtain ⟨cv,rfl,hv⟩:=hv;exact bg.ret0 P.rel ⟨cv,rfl,hv⟩ λQ E hQ=>hQ).imp λQ E x=>wpAny_execs_cons x
theorem al {st:Stmt} {m:Cm Fl} (h1:Ex hq k env st m):DY hq k env [st] m :=
 λA ι q s ha R=>(h1 A ι q s ha R).imp λQ E x=>wpAny_execs_cons (wpAny_mono x (λf s' y=>by cases f<;>first | exact wpAny_execs_nil y | exact y) λ_ _ y=>y)
theorem fM {e:Expr} {pos:Pos} {m:Cm V} (h1:Ev hq k env e m) (hi:interactive env=false:=by rfl) (hs:swapsWith e none pos.line env=pure false:=by rfl) :
  Ex hq k env (.Expr e pos) (m.b λ_=> .p .next) :=
 λA ι q s ha R=>(bg.b (T':=λv Q E s₁=>Q .next s₁) (h1 A ι q s ha R) λa q' ι' b s' _ P hv=>bg.ret0 P.rel zA λQ E hQ=>hQ).imp λQ E x=>by
  show wpAny _ _ _ _ _ _
  rw [exec_Expr env e pos hi hs]
  refine wpAny_bind (wpAny_standAt (wpAny_bind (wpAny_mono x (λv s' h'=> ?_) λ_ _ x=>x)))
  exact wpAny_dropValue h'
end
section
variable {hq:Bool} {k:Nat} {env:Env} {A:Around} {ι:List Addr} {q:S} {s:Shared} {H:Hp} {h:Heap}
noncomputable def vP (f:String) (v:V):List (String×V)->List (String×V)
 | []=>[(f,v)]
 | (g,w)::r=>if g=f then (g,v)::r else (g,w)::vP f v r
theorem hG {f g:String} {t:Tok}:(Value.str (Str.ofString g) t).isStr (Str.ofString f)=decide (g=f):=by
 show (Str.ofString g==Str.ofString f)=_
 by_cases e:g=f
 ·subst e;simp
 ·haveI:¬Str.ofString g=Str.ofString f:=λx=>e (f9 x)
  simp [e,this]
theorem qh:∀ {fs:List (String×V)} {es:List DictEntry},qU ι h fs es-> ∀(f:String),
  (match fs.lookup f with | some v=> ∃cv,getL (Str.ofString f) es=some (some cv)/\aT ι h v cv | none=>getL (Str.ofString f) es=some none)
 | [],_,x,f=>by rw [show _=[] from x];rfl
 | (g,w)::fs,_,z2,f=>by
  obtain ⟨t,cv,es',q,a,b⟩:=z2
  subst q
  haveI ih:=qh b f
  rw [List.lookup_cons]
  dsimp only at a ⊢
  by_cases e:f=g
  ·subst e
   simp only [beq_self_eq_true]
   refine ⟨cv,?_,a⟩
   unfold getL
   rw [aaC (by show Value.isStr _ _=true;rw [hG];simp)]
  ·haveI e':(f==g)=false:=by simpa using e
   rw [e']
   haveI hne:¬(g=f):=λx=>e x.symm
   haveI:getL (Str.ofString f) (⟨PyData.keyHash G.w.params (Str.ofString g),.str (Str.ofString g) t,cv⟩::es')=getL (Str.ofString f) es':=by
    unfold getL
    rw [aay (by show ¬(Value.isStr _ _=true);rw [hG];simpa using hne)]
    haveI:(DictEntry.refKey ⟨PyData.keyHash G.w.params (Str.ofString g),.str (Str.ofString g) t,cv⟩)=false:=rfl
    simp only [List.any_cons,this,Bool.false_or]
   rw [this]
   exact ih
theorem zI {f:String} {v:V} {cv:Value} {tk:Tok} (hv:aT ι h v cv):∀ {fs:List (String×V)} {es:List DictEntry},qU ι h fs es ->
  qU ι h (vP f v fs) (putL (Str.ofString f) (PyData.keyHash G.w.params (Str.ofString f)) (.str (Str.ofString f) tk) cv es)
 | [],_,x=>by rw [show _=[] from x];exact ⟨tk,cv,[],rfl,hv,rfl⟩
 | (g,w)::fs,_,z2=>by
  obtain ⟨t,cw,es',q,a,b⟩:=z2
  subst q
  show qU ι h (if g=f then (g,v)::fs else (g,w)::vP f v fs) (if (Value.str (Str.ofString g) t).isStr (Str.ofString f) then _ else _::putL (Str.ofString f) (PyData.keyHash G.w.params (Str.ofString f)) (.str (Str.ofString f) tk) cv es')
  rw [hG]
  by_cases e:g=f
  ·subst e;simp only [decide_true,if_true];exact ⟨t,cv,es',rfl,hv,b⟩
  ·simp only [e,decide_false,Bool.false_eq_true,if_false];exact ⟨t,cw,_,rfl,a,zI hv b⟩
theorem zH:∀ {fs:List (String×V)} {es:List DictEntry},qU ι h fs es->es.length=fs.length
 | [],_,x=>by rw [show _=[] from x];rfl
 | _::_,_,z2=>by obtain ⟨_,_,_,q,_,b⟩:=z2;subst q;simp [zH b]
noncomputable def AZ (K:Frag) (C:Addr) (name:Str):Bool:=plainGet K C name&&hasDictIn K C&&(match findIn K (.ref C) name with | some attr=>noGet K attr | none=>false)
noncomputable def FC (K:Frag) (C:Addr) (name:Str):Bool :=
 (findIn K (.ref C) "__setattr__" == some (some (.builtin "object.__setattr__")))&&plainOver K C&&(takerIn K C name==some none)&&hasDictIn K C
def sW (f:String):Prop:= ∀c C,G.cls c=some C->AZ G.K C (Str.ofString f)=true
def sX (f:String):Prop:= ∀c C,G.cls c=some C->FC G.K C (Str.ofString f)=true
theorem AC {v:V} {cv:Value} (r:aT ι h v cv):handedIn cv=true:=by
 cases v with
 | none=>rw [show cv= .none from r];rfl
 | bool b=>rw [show cv= .bool b from r];rfl
 | int i=>obtain ⟨t,rfl⟩:=r;rfl
 | str y=>obtain ⟨t,rfl⟩:=r;rfl
 | tup xs=>obtain ⟨a,vs,rfl,_⟩:=r;rfl
 | ref i=>obtain ⟨a,_,rfl⟩:=r;rfl
 | inst c i=>obtain ⟨a,x,C,o,_,_,rfl,_⟩:=r;rfl
 | exc c=>obtain ⟨x,C,o,_,rfl,_⟩:=r;rfl
 | scr=>rw [show cv= .ref G.sa from r];rfl
theorem yf (R:eX ι H h) {c:String} {i:Nat} {cv:Value} {fs:List (String×V)} (r:aT ι h (.inst c i) cv) (e:H[i]? = some (.flds fs)) :
  ∃a x C ox es n,A7 (ι[i]? = some a) (G.cls c=some C) (cv= .ref x) (InstAt h x ox C (some (dictOf es n))) (ox.dict=some a) (h.get? a=some (dictOf es n)) (qU ι h fs es):=by
 refine bP λY9 y9=> ?_
 obtain ⟨a,x,C,o,h1,h2,h3,h4,h5,h6,h7⟩:=r
 obtain ⟨a',es,n,g1,g2,g3⟩:=R.flds e
 refine y9 ?_
 obtain rfl:a=a':=Option.some.inj (h1.symm.trans g1)
 exact ⟨a,x,C,o,es,n,h1,h2,h3,⟨h4,h5,by unfold notCls;rw [h7],by rw [h6];exact g2⟩,h6,g2,g3⟩
noncomputable def aC (f:String):V->Cm V
 | .inst _ i=>λq=>match q.H[i]? with
  | some (.flds fs)=>(match fs.lookup f with | some v=> .ok v q | none=> .stuck)
  | _=> .stuck
 | _=> .stk
theorem HK (C:bJ G) {f:String} (hf:sW f) {v:V} {cv:Value} {ex:Bool} (R:cJ A env ι q s) (h1:aT ι s.heap v cv):bg A env ι s (aC f v q) (aT) (mJ A (getAttr cv (Str.ofString f) ex)):=by
 cases v with
 | inst c i =>
  unfold aC;dsimp only
  cases e:q.H[i]? with
  | none=>trivial
  | some o =>
  cases o with
  | flds fs =>
   refine bP λY9 y9=> ?_
   obtain ⟨a,x,C',ox,es,n,g1,g2,rfl,I,g3,g4,g5⟩:=yf R.st h1 e
   refine y9 ?_
   haveI hg:=qh g5 f
   dsimp only
   cases hv:fs.lookup f with
   | none=>trivial
   | some v =>
    rw [hv] at hg
    refine bP λY9 y9=> ?_
    obtain ⟨cw,hl,hr⟩:=hg
    haveI hok:=hf c C' g2
    unfold AZ at hok
    rw [aa9,aa9] at hok
    obtain ⟨⟨k1,k2⟩,k3⟩:=hok
    refine y9 ?_
    cases ha:findIn G.K (.ref C') (Str.ofString f) with
    | some attr =>
     rw [ha] at k3
     exact bg.ret R hr λQ E hQ=>get_value (C.X.keeps R.st.keep) I (plainGet_of k1).1 (findObj_own k2 ha k3 hl) (AC hr) hQ
    | none=>rw [ha] at k3;cases k3
  | _=>trivial
 | _=>trivial
theorem aE (C:bJ G) {f:String} (hf:sW f) {e:Expr} {pos:Pos} {m:Cm V} (h1:Ev hq k env e m)
  (he:eval (.Attribute e (Str.ofString f) pos) env=(do let o <- eval e env;standAt pos.atName;let r <- holding [o] (getAttr o (Str.ofString f) true);letTemporaryGo e o r;pure r):=by rfl) :
  Ev hq k env (.Attribute e (Str.ofString f) pos) (m.b λv=>aC f v) :=
 λA ι q s ha R=>(bg.b (T':=λv Q E s₁=>wpAny G.M A (getAttr v (Str.ofString f) true) Q E s₁) (h1 A ι q s ha R) λa q' ι' b s' _ P hv=>HK C hf P.rel hv).imp λQ E x=>Attribute_any_ x he
theorem GC {prog:Program} {w:World} {K:Frag} {C x dx:Addr} {ox:Obj} {R:Result->Shared->Prop} {name:Str} {tk:Tok} {v:Value} {es:List DictEntry} {n:Nat} {s:Shared} {A:Around} (X:K.In s.heap)
  (I:InstAt s.heap x ox C (some (dictOf es n))) (hd:ox.dict=some dx) (D:s.heap.get? dx=some (dictOf es n)) (hp:plainOver K C=true) (ht:takerIn K C name=some none) (hh:hasDictIn K C=true)
  (hl:(getL name es).isSome=true) (hz:(putL name (PyData.keyHash w.params name) (.str name s.toks) v es).length<=1000)
  (h:∀h',h'.get? dx=some (dictOf (putL name (PyData.keyHash w.params name) (.str name s.toks) v es) (putN name es n))->Heap.SameBut dx s.heap h'->R (.ok (.ret .none)) { s with heap:=h',toks:=s.toks+1 }) :
  codeAny (model prog w) A (.call (.builtin "object.__setattr__") ⟨[.ref x,.str name tk,v],[]⟩) R s:=by
 refine osa_open X I hp ht λb=> ?_
 refine bP λY9 y9=> ?_
 obtain ⟨cd,hc,hd'⟩:=any_some hh
 obtain ⟨hx,hcl,hn,-⟩:=I
 obtain ⟨oc,odi,oda,osl⟩:=ox
 refine y9 ?_
 dsimp only at hcl hd
 subst hcl hd
 refine wpAny_bind (wpAny_pure (wpAny_bind (wpAny_bind (wpAny_loadPart hx (wpAny_bind ((looks_clsIn X hc).here ?_))))))
 rw [hd']
 refine wpAny_pure (a:=some dx) (wpAny_bind (wpAny_pure (wpAny_bind ?_)))
 unfold nsSet
 refine wpAny_bind (wpAny_bind (wpAny_askSetting (wpAny_pure (wpAny_bind (wpAny_mkText (wpAny_bind (wpAny_loadPart D ?_)))))))
 dsimp only
 haveI c:(!(es.toArray).any (·.key.isStr name)&&(es.toArray).any (·.refKey))=false:=by
  unfold getL at hl
  split at hl
  ·rename_i en he
   haveI:(es.toArray).any (·.key.isStr name)=true:=by simpa using ⟨en,aaE he,by simpa using List.find?_some he⟩
   rw [this];rfl
  ·split at hl
   ·cases hl
   ·rename_i z
    haveI:(es.toArray).any (·.refKey)=false:=by simpa using z
    rw [this,Bool.and_false]
 have U:=Heap.get?_update_self (h:=s.heap) (Obj.putName name (PyData.keyHash w.params name) (.str name s.toks) v) D (by rw [putName_dict];rfl)
 rw [putName_dict] at U
 rw [aRefKeyMayBeTheName_at,c]
 refine wpAny_updatePart D ?_
 refine wpAny_bind (wpAny_lookBehind U (pastItsLine_dict (by rw [aaL,sizeLine_eq];exact cU 0x190bc000003e8a0011 hz)) ?_)
 exact wpAny_pure (h _ U (Heap.SameBut.update ..))
noncomputable def b0 (f:String) (v:V):V->Cm Unit
 | .inst _ i=>λq=>match q.H[i]? with
  | some (.flds fs)=>if fs.length<100 then .ok () { q with H:=q.H.set i (.flds (vP f v fs)) } else .stuck
  | _=> .stuck
 | _=> .stk
theorem zJ (f:String) (v:V):∀fs:List (String×V),(vP f v fs).length<=fs.length+1
 | []=>aaD _
 | (g,w)::r=>by
  show List.length (if g=f then (g,v)::r else (g,w)::vP f v r)<=_
  split
  ·exact Nat.le_succ _
  ·exact Nat.succ_le_succ (zJ f v r)
theorem C9 (C:bJ G) {f:String} (hf:sX f) {o v:V} {co cv:Value} (R:cJ A env ι q s) (h1:aT ι s.heap o co) (h2:aT ι s.heap v cv) :
  bg A env ι s (b0 f v o q) (λ_ _ _ _=>True) (mJ A (setAttr co (Str.ofString f) cv)):=by
 cases o with
 | inst c i =>
  unfold b0;dsimp only
  cases e:q.H[i]? with
  | none=>trivial
  | some o =>
  cases o with
  | flds fs =>
   dsimp only
   split
   ·rename_i hlen
    refine bP λY9 y9=> ?_
    obtain ⟨a,x,C',ox,es,n,g1,g2,rfl,I,g3,g4,g5⟩:=yf R.st h1 e
    haveI hok:=hf c C' g2
    unfold FC at hok
    simp only [aa9,beq_iff_eq] at hok
    obtain ⟨⟨⟨k1,k2⟩,k3⟩,k4⟩:=hok
    refine y9 ?_
    have hg:=qh g5 f
    haveI hl:(getL (Str.ofString f) es).isSome=true:=by
     cases hv:fs.lookup f with
     | some v=>rw [hv] at hg;obtain ⟨cw,hg,_⟩:=hg;rw [hg];rfl
     | none=>rw [hv] at hg;rw [hg];rfl
    intro Q E hQ
    have fr:=zI (tk:=s.toks+1) (f:=f) h2 g5
    refine set_plain (C.X.keeps R.st.keep) I k1 (GC (s:={ s with toks:=s.toks+1 }) (C.X.keeps R.st.keep) I g3 g4 k2 k3 k4 hl ?_ λh' e1 e2=> ?_)
    ·show (putL _ _ (Value.str _ (s.toks+1)) _ _).length<=1000
     rw [zH fr]
     haveI:=zJ f v fs
     exact cM 0x3e8a10190c101000064a0112 hlen this
    ·exact hQ ι () _ (bh.set R g1 e2 λim=>⟨_,_,e1,fr.mono (aac _) im⟩) trivial
   ·trivial
  | _=>trivial
 | _=>trivial
theorem eJ (C:bJ G) {f:String} (hf:sX f) {o e:Expr} {p pos:Pos} {m1 m2:Cm V} (h1:Ev hq k env e m1) (h2:Ev hq k env o m2)
  (hs:swapsWith e (some (.Attribute o (Str.ofString f) p)) pos.line env=pure false) :
  Ex hq k env (.Assign [.Attribute o (Str.ofString f) p] e pos) (m1.b λv=>m2.b λo=>(b0 f v o).b λ_=> .p .next) :=
 λA ι q s ha R=>(bg.b (T':=λv Q E s₁=>wpAny G.M A (eval o env) (λov s₂=>wpAny G.M A (setAttr ov (Str.ofString f) v) (λ_=>Q .next) E s₂) E s₁) (h1 A ι q s ha R) λa q' ι' b s' _ P hv =>
  bg.b (T':=λov Q E s₁=>wpAny G.M A (setAttr ov (Str.ofString f) b) (λ_=>Q Flow.next) E s₁) (h2 A ι' q' s' ha P.rel) λa2 q2 ι2 b2 s2 _ P2 hv2 =>
  bg.b (T':=λ_ Q E s₁=>Q Flow.next s₁) (C9 C hf P2.rel hv2 (P2.vrel P.rel hv)) λa3 q3 ι3 b3 s3 _ P3 _=>bg.ret0 P3.rel zA λQ E hQ=>hQ).imp λQ E x=>plainObj_wpAny_Assign_Attribute x hs
end
section
variable {hq:Bool} {k:Nat} {env:Env} {A:Around} {ι:List Addr} {q:S} {s:Shared} {H:Hp} {h:Heap}
theorem zO:∀ {vs:List Value} {ns:List Int},IntsAre vs ns-> ∀ {i:Nat} {n:Int},ns[i]? = some n-> ∃t,vs[i]? = some (.int n t)
 | [],[],_,i,n,e=>by simp at e
 | [],_::_,x,_,_,_=>by cases x
 | _::_,[],x,_,_,_=>by cases x
 | v::vs,n0::ns,x,i,n,e=>by
  haveI hx:(∃t,v= .int n0 t)/\IntsAre vs ns:=by
   cases x with
   | cons a b=>exact ⟨⟨_,rfl⟩,by assumption⟩
  obtain ⟨⟨t,rfl⟩,hx⟩:=hx
  cases i with
  | zero=>simp at e;subst e;exact ⟨t,rfl⟩
  | succ i=>simpa using zO hx (by simpa using e)
theorem pG:∀ {vs:List Value} {ns:List Int},IntsAre vs ns->aX ι h (ns.map .int) vs
 | [],[],_=>yW
 | [],_::_,x=>by cases x
 | _::_,[],x=>by cases x
 | v::vs,n0::ns,x=>by
  haveI hx:(∃t,v= .int n0 t)/\IntsAre vs ns:=by
   cases x with
   | cons a b=>exact ⟨⟨_,rfl⟩,by assumption⟩
  obtain ⟨⟨t,rfl⟩,hx⟩:=hx
  exact pf (yV _ _) (pG hx)
noncomputable def aR (o i:V):Cm V:=λq=>match o,i with
 | .ref r,.int k=>(match q.H[r]? with
  | some (.list xs)=>if 0<=k/\k<1000000 then (match xs[k.toNat]? with | some v=> .ok v q | none=> .stuck) else .stuck
  | some (.dict es)=>(match es.lookup k with | some v=> .ok v q | none=> .stuck)
  | _=> .stuck)
 | .tup xs,.int k=>if 0<=k/\k<1000000 then (match xs[k.toNat]? with | some v=> .ok v q | none=> .stuck) else .stuck
 | .scr,.int k=>if 0<=k/\k<1000000 then (match sn[k.toNat]? with | some n=> .ok (.int n) q | none=> .stuck) else .stuck
 | _,_=> .stuck
noncomputable def Kb {α:Type} (q:S) (P:α->Prop):qT S α->Prop
 | .ok v q'=>q'=q/\P v
 | .exc _ _=>False
 | .stuck=>True
theorem bg.ro {r:qT S V} {T:PT Value} (R:cJ A env ι q s) (h:Kb q (λv=> ∀Q E,(∀cv tk,aT ι s.heap v cv->Q cv { s with toks:=tk })->T Q E s) r):bg A env ι s r (aT) T:=by
 cases r with
 | ok v q'=>obtain ⟨rfl,h⟩:=h;exact λQ E x=>h Q E λcv tk hr=>x ι cv _ (bh.toks R tk) hr
 | exc _ _=>exact h.elim
 | stuck=>trivial
theorem Gm (C:bJ G) {value slice:Expr} (hs:∀o i,subscripted slice false o i=operate [o,i] (getItem o i)) {o i:V} {co ci:Value} (st:eX ι q.H s.heap) (h1:aT ι s.heap o co) (h2:aT ι s.heap i ci) :
  Kb q (λv=> ∀Q E,(∀cv tk,aT ι s.heap v cv->Q cv { s with toks:=tk })->wpAny G.M A (subscriptTail value slice co ci) Q E s) (aR o i q):=by
 cases o with
 | ref r =>
  cases i with
  | int k =>
   refine bP λY9 y9=> ?_
   obtain ⟨a,ha,rfl⟩:=h1
   obtain ⟨t,rfl⟩:=h2
   refine y9 ?_
   unfold aR;dsimp only
   cases e:q.H[r]? with
   | none=>trivial
   | some o =>
    cases o with
    | list xs =>
     dsimp only
     split
     ·rename_i hk
      cases hv:xs[k.toNat]? with
      | some v =>
       refine bP λY9 y9=> ?_
       obtain ⟨a1,n1,vs,g1,g2,g3⟩:=st.list e
       refine y9 ?_
       obtain rfl:a=a1:=Option.some.inj (ha.symm.trans g1)
       obtain ⟨cv,hcv,hr⟩:=g3.get hv
       have hl:=g2.isList
       refine ⟨rfl,λQ E hQ=> ?_⟩;haveI hQ:=hQ cv s.toks hr;exact tail_any hl.typeIs slot_list_getitem.lookup (wpAny_getItem_list hl hk.1 (I7 (bQ 0xf42400a090f4240a0911 hk.2)) (by simpa using hcv) hQ) (hs _ _)
      | none=>trivial
     ·trivial
    | dict es =>
     dsimp only
     cases hv:es.lookup k with
     | some v =>
      refine bP λY9 y9=> ?_
      obtain ⟨a1,kvs,g1,g2,g3⟩:=st.dict e
      refine y9 ?_
      obtain rfl:a=a1:=Option.some.inj (ha.symm.trans g1)
      haveI hg:=io g3 k
      rw [hv] at hg
      obtain ⟨cv,hcv,hr⟩:=hg
      refine ⟨rfl,λQ E hQ=> ?_⟩;exact tail_any g2.mapOf.typeIs slot_dict_getitem.lookup (wpAny_getItem_of (intKind_is G.prog G.w k t) g2.mapOf hcv (hQ cv _ hr)) (hs _ _)
     | none=>trivial
    | _=>trivial
  | _=>trivial
 | tup xs =>
  cases i with
  | int k =>
   refine bP λY9 y9=> ?_
   obtain ⟨a,vs,rfl,ht,hv⟩:=h1
   obtain ⟨t,rfl⟩:=h2
   refine y9 ?_
   unfold aR;dsimp only
   split
   ·rename_i hk
    cases hx:xs[k.toNat]? with
    | some v =>
     obtain ⟨cv,hcv,hr⟩:=hv.get hx
     haveI hlen:=(aab.mp hcv).1
     haveI hj:seqIndex? k vs.toArray.size=some k.toNat:=by
      unfold seqIndex?
      rw [aaL]
      have:¬(k<0):=bQ 0x90d009811 hk.1
      simp only [this,if_false]
      have h2:0<=k/\k<(vs.length:Int):=⟨hk.1,kx 0x1f090f08110112 hlen (Int.self_le_toNat _)⟩
      simp only [h2,and_self,if_true,decide_true,Bool.and_true,Bool.and_self]
     refine ⟨rfl,λQ E hQ=> ?_⟩;haveI hQ:=hQ cv s.toks hr;exact tail_any ht.typeIs slot_tuple_getitem.lookup (getItem_tuple ht (Kf (hk.1)) (I7 (bQ 0xf42400a090f4240a0911 hk.2)) hj (by simpa using hcv) hQ) (hs _ _)
    | none=>trivial
   ·trivial
  | _=>trivial
 | scr =>
  cases i with
  | int k =>
   rw [show co= .ref G.sa from h1]
   obtain ⟨t,rfl⟩:=h2
   unfold aR;dsimp only
   split
   ·rename_i hk
    cases hn:sn[k.toNat]? with
    | some n =>
     obtain ⟨t',ht'⟩:=zO C.isInts hn
     have hl:s.heap.IsList G.sa G.sv.toArray:=C.scr.at λo e=>st.keep _ _ e
     refine ⟨rfl,λQ E hQ=> ?_⟩;haveI hQ:=hQ _ s.toks (yV n t');exact tail_any hl.typeIs slot_list_getitem.lookup (wpAny_getItem_list hl hk.1 (I7 (bQ 0xf42400a090f4240a0911 hk.2)) (by simpa using ht') hQ) (hs _ _)
    | none=>trivial
   ·trivial
  | _=>trivial
 | _=>trivial
theorem HN (C:bJ G) {value slice:Expr} (hs:∀o i,subscripted slice false o i=operate [o,i] (getItem o i)) {o i:V} {co ci:Value} (R:cJ A env ι q s) (h1:aT ι s.heap o co) (h2:aT ι s.heap i ci) :
  bg A env ι s (aR o i q) (aT) (mJ A (subscriptTail value slice co ci)):= .ro R (Gm C hs R.st h1 h2)
theorem aP (C:bJ G) {e i:Expr} {pos:Pos} {m1 m2:Cm V} (h1:Ev hq k env e m1) (h2:Ev hq k env i m2) (hs:∀o v,subscripted i false o v=operate [o,v] (getItem o v):=by exact λ_ _=>rfl) :
  Ev hq k env (.Subscript e i pos) (m1.b λo=>m2.b λv=>aR o v) :=
 λA ι q s ha R=>(bg.b (h1 A ι q s ha R) λa q' ι' b s' _ P hv=>bg.b (T':=λv Q E s₁=>wpAny G.M A (subscriptTail e i b v) Q E s₁) (h2 A ι' q' s' ha P.rel) λa2 q2 ι2 b2 s2 _ P2 hv2 =>
  HN C hs P2.rel (P2.vrel P.rel hv) hv2).imp λQ E x=>Subscript_ x
noncomputable def zu (k:Int) (v:V) (es:List (Int×V)):List (Int×V):=if (es.lookup k).isSome then es.map (λe=>if e.1=k then (e.1,v) else e) else es++[(k,v)]
noncomputable def dn (o i v:V):Cm Unit:=λq=>match o,i with
 | .ref r,.int k=>(match q.H[r]? with
  | some (.list xs)=>if 0<=k/\k<1000000/\k<xs.length then .ok () { q with H:=q.H.set r (.list (xs.set k.toNat v)) } else .stuck
  | some (.dict es)=>if es.length<1000000 then .ok () { q with H:=q.H.set r (.dict (zu k v es)) } else .stuck
  | _=> .stuck)
 | _,_=> .stuck
theorem ua:∀ {es:List (Int×V)} {kvs:List (Int×Value)},kf ι h es kvs->kvs.length=es.length
 | [],_,x=>by rw [show _=[] from x];rfl
 | _::_,_,z2=>by obtain ⟨_,_,q,_,b⟩:=z2;subst q;simp [ua b]
theorem ub {k:Int} {v:V} {cv:Value} (hv:aT ι h v cv):∀ {es:List (Int×V)} {kvs:List (Int×Value)},kf ι h es kvs->kf ι h (es.map (λe=>if e.1=k then (e.1,v) else e)) (kvs.map (λkv=>if kv.1=k then (kv.1,cv) else kv))
 | [],_,x=>by rw [show _=[] from x];rfl
 | (k',w)::es,_,z2=>by
  refine bP λY9 y9=> ?_
  obtain ⟨cw,kvs',q,a,b⟩:=z2
  refine y9 ?_
  subst q
  rw [aas,aas]
  dsimp only
  by_cases e:k'=k
  ·simp only [e,if_true];exact ⟨cv,_,rfl,hv,ub hv b⟩
  ·simp only [e,if_false];exact ⟨cw,_,rfl,a,ub hv b⟩
theorem rZ:∀ {es:List (Int×V)} {kvs:List (Int×Value)},kf ι h es kvs-> ∀ {es':List (Int×V)} {kvs':List (Int×Value)},kf ι h es' kvs'->kf ι h (es++es') (kvs++kvs')
 | [],_,x,_,_,y=>by rw [show _=[] from x];exact y
 | _::_,_,z2,_,_,y=>by obtain ⟨cv,kvs',q,a,b⟩:=z2;subst q;exact ⟨cv,_,rfl,a,rZ b y⟩
theorem zp {k:Int}:∀ {es:List (Int×V)} {kvs:List (Int×Value)},kf ι h es kvs->kvs.any (λkv=>kv.1=k)=(es.lookup k).isSome
 | [],_,x=>by rw [show _=[] from x];rfl
 | (k',w)::es,_,z2=>by
  obtain ⟨cw,kvs',q,a,b⟩:=z2
  subst q
  rw [List.any_cons,List.lookup_cons,zp b]
  dsimp only
  by_cases e:k=k'
  ·subst e;simp
  ·haveI e':(k==k')=false:=by simpa using e
   haveI e2:¬(k'=k):=λx=>e x.symm
   rw [e'];simp [e2]
theorem Ep {k:Int} {v:V} {cv:Value} (hv:aT ι h v cv) {es:List (Int×V)} {kvs:List (Int×Value)} (x:kf ι h es kvs):kf ι h (zu k v es) (stored kvs k cv):=by
 unfold zu stored
 rw [zp x]
 split
 ·exact ub hv x
 ·exact rZ x ⟨cv,[],rfl,hv,rfl⟩
theorem Da (C:bJ G) {o i v:V} {co ci cv:Value} (R:cJ A env ι q s) (h1:aT ι s.heap o co) (h2:aT ι s.heap i ci) (h3:aT ι s.heap v cv) :
  bg A env ι s (dn o i v q) (λ_ _ _ _=>True) (mJ A (setItem co ci cv)):=by
 cases o with
 | ref r =>
  cases i with
  | int k =>
   refine bP λY9 y9=> ?_
   obtain ⟨a,ha,rfl⟩:=h1
   obtain ⟨t,rfl⟩:=h2
   refine y9 ?_
   unfold dn;dsimp only
   cases e:q.H[r]? with
   | none=>trivial
   | some o =>
    cases o with
    | list xs =>
     dsimp only
     split
     ·rename_i hk
      refine bP λY9 y9=> ?_
      obtain ⟨a1,n1,vs,g1,g2,g3⟩:=R.st.list e
      refine y9 ?_
      obtain rfl:a=a1:=Option.some.inj (ha.symm.trans g1)
      haveI hlen:=g3.length
      intro Q E hQ
      refine setItem_plain g2 hk.1 (I7 (bQ 0xf42400a090f4240a0911 hk.2.1)) (by rw [aaL,hlen];exact hk.2.2) λh' e1 e2=> ?_
      refine hQ ι () _ (bh.set (tk:=s.toks) R g1 e2 λim=>⟨vs.set k.toNat cv,?_,(g3.mono (aac _) im).set _ (h3.mono (aac _) im)⟩) trivial
      simpa using e1
     ·trivial
    | dict es =>
     dsimp only
     split
     ·rename_i hk
      refine bP λY9 y9=> ?_
      obtain ⟨a1,kvs,g1,g2,g3⟩:=R.st.dict e
      refine y9 ?_
      obtain rfl:a=a1:=Option.some.inj (ha.symm.trans g1)
      intro Q E hQ
      refine wpAny_setItem_pairs (intKind_is G.prog G.w k t) g2 (λh' e1 e2=> ?_) (by rw [ua g3,sizeLine_eq];exact cU 0xb000f4240a0111 hk)
      exact hQ ι () _ (bh.set R g1 e2 λim=>⟨_,e1,Ep (h3.mono (aac _) im) (g3.mono (aac _) im)⟩) trivial
     ·trivial
    | _=>trivial
  | _=>trivial
 | _=>trivial
where
 setItem_plain {prog:Program} {w:World} {A:Around} {E:Value->Shared->Prop} {s:Shared} {l:Addr} {items:Array Value} {n:Nat} {k:Int} {t:Tok} {v:Value} {Q:Unit->Shared->Prop} (hl:IsL s.heap l items n)
   (h0:0<=k) (hfit:k<2 ^ 63) (hn:k<items.size)
   (hQ:∀h',h'.PlainList l (items.setIfInBounds k.toNat v)->Heap.SameBut l s.heap h'->Q () { s with heap:=h' }) :
   wpAny (model prog w) A (setItem (.ref l) (.int k t) v) Q E s :=
  ki_setAt hl h0 hfit hn (hQ _ ⟨_,hl.update _⟩ (Heap.SameBut.update ..))
theorem gq (C:bJ G) {o i e:Expr} {p pos:Pos} {m1 m2 m3:Cm V} (h1:Ev hq k env e m1) (h2:Ev hq k env o m2) (h3:Ev hq k env i m3)
  (hs:swapsWith e (some (.Subscript o i p)) pos.line env=pure false) :
  Ex hq k env (.Assign [.Subscript o i p] e pos) (m1.b λv=>m2.b λo=>m3.b λi=>(dn o i v).b λ_=> .p .next) :=
 λA ι q s ha R=>(bg.b (T':=λv Q E s₁=>wpAny G.M A (eval o env) (λov s₂=>wpAny G.M A (eval i env) (λiv s₃=>wpAny G.M A (setItem ov iv v) (λ_=>Q Flow.next) E s₃) E s₂) E s₁) (h1 A ι q s ha R) λa q' ι' b s' _ P hv =>
  bg.b (T':=λov Q E s₁=>wpAny G.M A (eval i env) (λiv s₃=>wpAny G.M A (setItem ov iv b) (λ_=>Q Flow.next) E s₃) E s₁) (h2 A ι' q' s' ha P.rel) λa2 q2 ι2 b2 s2 _ P2 hv2 =>
  bg.b (T':=λiv Q E s₁=>wpAny G.M A (setItem b2 iv b) (λ_=>Q Flow.next) E s₁) (h3 A ι2 q2 s2 ha P2.rel) λa3 q3 ι3 b3 s3 _ P3 hv3 =>
  bg.b (T':=λ_ Q E s₁=>Q Flow.next s₁) (Da C P3.rel (P3.vrel P2.rel hv2) hv3 (P3.vrel P2.rel (P2.vrel P.rel hv))) λa4 q4 ι4 b4 s4 _ P4 _=>bg.ret0 P4.rel zA λQ E hQ=>hQ).imp λQ E x=>wpAny_Assign_Subscript x hs
abbrev C8 (hq:Bool) (k:Nat) (env:Env) (es:List Expr) (m:Cm (List V)):Prop:= ∀pos,Sem.Is hq k env (λA=>mJ A (spliced (backTo pos (starEach es env)))) m (aX)
theorem aj:C8 hq k env [] (.p []):=λpos A ι q s ha R=>bg.ret0 R yW λQ E hQ=>wpAny_items_nil hQ
theorem ae {e:Expr} {es:List Expr} {m:Cm V} {m':Cm (List V)} (h1:Ev hq k env e m) (h2:C8 hq k env es m') (he:starEach (e::es) env=(false,eval e env)::starEach es env:=by kernel_rfl) :
  C8 hq k env (e::es) (m.b λv=>m'.b λvs=> .p (v::vs)) :=
 λpos A ι q s ha R=>(bg.b (T':=λv Q E s₁=>wpAny G.M A (spliced (backTo pos (starEach es env))) (λvs s₂=>Q (v::vs) s₂) E s₁) (h1 A ι q s ha R) λa q' ι' b s' _ P hv =>
  bg.b (T':=λvs Q E s₁=>Q (b::vs) s₁) (h2 pos A ι' q' s' ha P.rel) λa2 q2 ι2 b2 s2 _ P2 hv2=>bg.ret0 P2.rel (pf (P2.vrel P.rel hv) hv2) λQ E hQ=>hQ).imp λQ E x=>wpAny_items_cons x he
noncomputable def dr (vs:List V):Cm V:=λq=>if vs.length<=1000000 then .ok (.ref q.H.length) { q with H:=q.H++[.list vs] } else .stuck
theorem cC {es:List Expr} {pos:Pos} {m:Cm (List V)} (h1:C8 hq k env es m):Ev hq k env (.List es pos) (m.b λvs=>dr vs) :=
 λA ι q s ha R=>(bg.b (T':=λvs Q E s₁=>vs.length<=sizeLine/\Q (Value.ref s₁.heap.objs.size) { s₁ with heap:=s₁.heap.push { cls:= .type "list",data:= .seq vs.toArray } }) (h1 pos A ι q s ha R) λa q' ι' b s' _ P hv=>by
  unfold dr
  split
  ·rename_i hl
   refine bg.newList (β:=Value) (tk:=s'.toks) P.rel hv λQ E hQ=>⟨?_,hQ⟩
   rw [hv.length,sizeLine_eq];exact cU 0xb000f4240a0011 hl
  ·trivial).imp λQ E x=>wpAny_List x
theorem FM {xs:List V} {vs:List Value} (R:cJ A env ι q s) (hx:aX ι s.heap xs vs):aT ι (s.heap.push { cls:= .type "tuple",data:= .seq vs.toArray }) (.tup xs) (.ref s.heap.objs.size) :=
 ⟨_,vs,rfl,⟨_,aaG _ rfl,rfl,0,rfl⟩,hx.mono (aac _) (.of_stays (je _ _))⟩
noncomputable def mH (vs:List V):Cm V:=if vs.length<=1000000 then .p (.tup vs) else .stk
noncomputable def Gy:Cm V:=λq=> .ok (.ref q.H.length) { q with H:=q.H++[.dict []] }
theorem fj {es:List Expr} {kk:Nat} {pos:Pos} {m:Cm (List V)} (h1:C8 hq k env es m):Ev hq k env (.Tuple es kk pos) (m.b λvs=>mH vs) :=
 λA ι q s ha R=>(bg.b (T':=λvs Q E s₁=>vs.length<=sizeLine/\Q (Value.ref s₁.heap.objs.size) { s₁ with heap:=s₁.heap.push { cls:= .type "tuple",data:= .seq vs.toArray } }) (h1 pos A ι q s ha R) λa q' ι' b s' _ P hv=>by
  unfold mH
  split
  ·rename_i hl
   refine bg.grew (tk:=s'.toks) P.rel (je _ _) (FM P.rel hv) λQ E hQ=>⟨?_,hQ⟩
   rw [hv.length,sizeLine_eq];exact cU 0xb000f4240a0011 hl
  ·trivial).imp λQ E x=>wpAny_Tuple x
theorem F9 {pos:Pos}:Ev hq k env (.Dict [] [] pos) Gy:=λA ι q s ha R =>
 bg.alloc (tk:=s.toks) (h':=s.heap.push { cls:= .type "dict",data:= .dict #[] }) R (je _ _) (aaI (aaD _))
  ⟨[],⟨_,#[],0,aaG _ rfl,⟨rfl,rfl,rfl⟩,rfl,λ_ he=>by simp at he,Pairs.nil,List.nodup_nil⟩,rfl⟩ (jr R.st _) λQ E hQ=>by
  show wpAny _ _ (do standAt pos;dictDisplay []) Q E s
  refine wpAny_bind (wpAny_standAt ?_)
  show wpAny _ _ newDict Q E s
  exact wpAny_newObj_type hQ
noncomputable def ay (o:V) (H:Hp):Option (List V):=match o with
 | .ref i=>(match H[i]? with | some (.list xs)=>some xs | _=>none)
 | .scr=>some (sn.map .int)
 | _=>none
noncomputable def Aw (o u:V):Cm V:=λq=>match ay o q.H,u with
 | some xs,.int b=>if 0<=b/\xs.length<=1000000 then .ok (.ref q.H.length) { q with H:=q.H++[.list (xs.take b.toNat)] } else .stuck
 | _,_=> .stuck
noncomputable def zr (o u:V):Cm V:=λq=>match ay o q.H,u with
 | some xs,.int b=>if 0<=b/\xs.length<=1000000 then .ok (.ref q.H.length) { q with H:=q.H++[.list (xs.drop b.toNat)] } else .stuck
 | _,_=> .stuck
theorem fV (C:bJ G) {o:V} {co:Value} {xs:List V} (R:eX ι H h) (r:aT ι h o co) (e:ay o H=some xs):∃a vs,A3 (co= .ref a) (h.IsList a (List.toArray vs)) (aX ι h xs vs):=by
 refine xf λX' kX=> ?_
 cases o with
 | ref i =>
  unfold ay at e;dsimp only at e
  cases hx:H[i]? with
  | none=>rw [hx] at e;cases e
  | some o =>
   rw [hx] at e
   cases o with
   | list ys =>
    cases e
    obtain ⟨a,ha,rfl⟩:=r
    obtain ⟨a1,n1,vs,g1,g2,g3⟩:=R.list hx
    obtain rfl:a=a1:=Option.some.inj (ha.symm.trans g1)
    exact kX ⟨a,vs,rfl,g2.isList,g3⟩
   | _=>cases e
 | scr =>
  cases e
  obtain rfl:co= .ref G.sa:=r
  exact kX ⟨_,_,rfl,C.scr.at λo e=>R.keep _ _ e,pG C.isInts⟩
 | _=>cases e
theorem ut {o:V} {co:Value} {xs:List V} {ι':List Addr} {h':Heap} (e:ay o H=some xs) (r:aT ι h o co) (p:ι<+:ι'):aT ι' h' o co:=by
 cases o with
 | ref i=>obtain ⟨a,e1,e2⟩:=r;exact ⟨a,getElem?_prefix p e1,e2⟩
 | scr=>exact r
 | _=>cases e
theorem Bp {o:V} {xs:List V} (e:ay o H=some xs):(∃i,o= .ref i)\/o= .scr:=by
 cases o with
 | ref i=>exact .inl ⟨_,rfl⟩
 | scr=>exact .inr rfl
 | _=>cases e
theorem xv {value:Expr} {lower upper:Option Expr} {p:Pos} {l:Addr} {vs:List Value} {vl vu:Value} {lo hi:Option Int} {A:Around} {E:Value->Shared->Prop} {s:Shared} {Q:Value->Shared->Prop} {prog:Program} {w:World}
  (hl:s.heap.IsList l vs.toArray) (pl:IsPart vl lo) (pu:IsPart vu hi) (hsz:vs.length<=sizeLine)
  (h:Q (.ref (s.heap.objs.size+1)) { s with heap:=(s.heap.push { cls:= .type "slice",data:= .fields #[vl,vu,.none] }).push { cls:= .type "list",data:= .seq (slicePick vs.toArray lo hi none) } }) :
  wpAny (model prog w) A (subscriptTail value (.Slice lower upper none p) (.ref l) (.ref s.heap.objs.size)) Q E { s with heap:=s.heap.push { cls:= .type "slice",data:= .fields #[vl,vu,.none] } }:=by
 have hl':=hl.push { cls:= .type "slice",data:= .fields #[vl,vu,.none] }
 refine tail_any (ops:=[.ref s.heap.objs.size,.ref l]) (Heap.IsList.typeIs (s:={ s with heap:=s.heap.push { cls:= .type "slice",data:= .fields #[vl,vu,.none] } }) hl') slot_list_getitem.lookup ?_ rfl
 refine wpAny_getItem_list_slice hl' (Heap.IsSliceOf.new ..) pl pu .none (by simp) ?_ (by simpa using hsz)
 rw [Heap.size_push]
 exact h
theorem HG (C:bJ G) {e u:Expr} {p pos:Pos} {m1 m2:Cm V} (h1:Ev hq k env e m1) (h2:Ev hq k env u m2) :
  Ev hq k env (.Subscript e (.Slice none (some u) none p) pos) (m1.b λo=>m2.b λv=>Aw o v):=by
 intro A ι q s ha R
 refine (bg.b (h1 A ι q s ha R) λa q' ι' b s' _ P hv=>bg.b (T':=λv Q E s₁=>wpAny G.M A (subscriptTail e (.Slice none (some u) none p) b (.ref s₁.heap.objs.size)) Q E { s₁ with heap:=s₁.heap.push { cls:= .type "slice",data:= .fields #[.none,v,.none] } })
  (h2 A ι' q' s' ha P.rel) λa2 q2 ι2 b2 s2 _ P2 hv2=> ?_).imp λQ E x=>Subscript_ (wpAny_mono x (λo s₁ y=>wpAny_Slice (wpAny_pure (wpAny_mono y (λv s₂ z=>wpAny_pure z) λ_ _ z=>z))) λ_ _ y=>y)
 unfold Aw
 cases e1:ay a q2.H with
 | none=>trivial
 | some xs =>
 cases a2 with
 | int n =>
  dsimp only
  split
  ·rename_i hn
   refine bP λY9 y9=> ?_
   obtain ⟨t,rfl⟩:=hv2
   obtain ⟨l,vs,rfl,g1,g2⟩:=fV C P2.rel.st (P2.vrel P.rel hv) e1
   refine y9 ?_
   refine bg.alloc (tk:=s2.toks) P2.rel (a:=s2.heap.objs.size+1) (h':=(s2.heap.push { cls:= .type "slice",data:= .fields #[.none,.int n t,.none] }).push { cls:= .type "list",data:= .seq (vs.take n.toNat).toArray }) (λb o e=>aah _ (aah _ e)) (aaI (Nat.le_succ _)) ⟨vs.take n.toNat,⟨0,?_⟩,?_⟩ (jr P2.rel.st _) λQ E hQ=> ?_
   ·haveI:=aaG (s2.heap.push { cls:= .type "slice",data:= .fields #[.none,.int n t,.none] }) (o:={ cls:= .type "list",data:= .seq (vs.take n.toNat).toArray }) rfl
    rwa [Heap.size_push] at this
   ·exact (g2.take n.toNat).mono (aap _ _) (.of_stays λb o e=>aah _ (aah _ e))
   ·refine xv g1 .none (.int n t) (by rw [g2.length,sizeLine_eq];exact cU 0xb000f4240a0011 hn.2) ?_
    haveI:=slicePick_upto' vs.toArray n.toNat
    rw [aaq hn.1] at this
    rw [this]
    exact hQ
  ·trivial
 | _=>trivial
theorem HF (C:bJ G) {e u:Expr} {p pos:Pos} {m1 m2:Cm V} (h1:Ev hq k env e m1) (h2:Ev hq k env u m2) :
  Ev hq k env (.Subscript e (.Slice (some u) none none p) pos) (m1.b λo=>m2.b λv=>zr o v):=by
 intro A ι q s ha R
 refine (bg.b (h1 A ι q s ha R) λa q' ι' b s' _ P hv=>bg.b (T':=λv Q E s₁=>wpAny G.M A (subscriptTail e (.Slice (some u) none none p) b (.ref s₁.heap.objs.size)) Q E { s₁ with heap:=s₁.heap.push { cls:= .type "slice",data:= .fields #[v,.none,.none] } })
  (h2 A ι' q' s' ha P.rel) λa2 q2 ι2 b2 s2 _ P2 hv2=> ?_).imp λQ E x=>Subscript_ (wpAny_mono x (λo s₁ y=>wpAny_Slice (wpAny_mono y (λv s₂ z=>wpAny_pure (wpAny_pure z)) λ_ _ z=>z)) λ_ _ y=>y)
 unfold zr
 cases e1:ay a q2.H with
 | none=>trivial
 | some xs =>
 cases a2 with
 | int n =>
  dsimp only
  split
  ·rename_i hn
   refine bP λY9 y9=> ?_
   obtain ⟨t,rfl⟩:=hv2
   obtain ⟨l,vs,rfl,g1,g2⟩:=fV C P2.rel.st (P2.vrel P.rel hv) e1
   refine y9 ?_
   refine bg.alloc (tk:=s2.toks) P2.rel (a:=s2.heap.objs.size+1) (h':=(s2.heap.push { cls:= .type "slice",data:= .fields #[.int n t,.none,.none] }).push { cls:= .type "list",data:= .seq (vs.drop n.toNat).toArray }) (λb o e=>aah _ (aah _ e)) (aaI (Nat.le_succ _)) ⟨vs.drop n.toNat,⟨0,?_⟩,?_⟩ (jr P2.rel.st _) λQ E hQ=> ?_
   ·haveI:=aaG (s2.heap.push { cls:= .type "slice",data:= .fields #[.int n t,.none,.none] }) (o:={ cls:= .type "list",data:= .seq (vs.drop n.toNat).toArray }) rfl
    rwa [Heap.size_push] at this
   ·exact (g2.drop n.toNat).mono (aap _ _) (.of_stays λb o e=>aah _ (aah _ e))
   ·refine xv g1 (.int n t) .none (by rw [g2.length,sizeLine_eq];exact cU 0xb000f4240a0011 hn.2) ?_
    haveI:=slicePick_from' vs.toArray n.toNat
    rw [aaq hn.1] at this
    rw [this]
    exact hQ
  ·trivial
 | _=>trivial
end
structure tY (A:Around) (ι:List Addr) (s:Shared) (ι':List Addr) (H':Hp) (s':Shared):Prop where
 pre:ι<+:ι'
 st:eX ι' H' s'.heap
 fs:oD (A.frames.getD []) ι' s'.heap
 kp:Kp ι (lB A) s.heap s'.heap
 new:∀a∈ι',a∈ι\/s.heap.get? a=none
 gens:s'.gens = #[]
 os:s'.os=G.os
inductive JO (fs:List Env) (fa:List Addr) (ι:List Addr) (h:Heap) (c:String) (ι':List Addr) (H':Hp) (h':Heap) (ev:Value) (e C:Addr) (B:Heap):Prop
 | mk (z0:ev= .ref e) (z1:G.xcl c=some C) (z2:zb B fs e (.ref C) .none h') (z3:eX ι' H' B) (z4:oD fs ι' h') (z5:∀a o,h.get? a=some o->a∉ι->a∉fa->B.get? a=some o)
structure pi (A:Around) (ι:List Addr) (s:Shared) (c:String) (ι':List Addr) (H':Hp) (s':Shared) (ev:Value):Prop where
 pre:ι<+:ι'
 ex:∃e C B,JO (A.frames.getD []) (lB A) ι s.heap c ι' H' s'.heap ev e C B
 size:AT s.heap s'.heap
 up:∀a o,s.heap.get? a=some o->a∉ι-> ∃sl,s'.heap.get? a=some { o with slots:=sl }
 new:∀a∈ι',a∈ι\/s.heap.get? a=none
 gens:s'.gens = #[]
 os:s'.os=G.os
def bW (hq:Bool) (k:Nat) (f:Addr) (F:Fc):Prop :=
 ∀A ι H s vs cvs,ROk hq k A->(∃fs,A.frames=some fs)->eX ι H s.heap->oD (A.frames.getD []) ι s.heap->s.gens = #[]->s.os=G.os->sY A s.heap->aX ι s.heap vs cvs ->
  match F vs H with
  | .ok v H'=> ∀R:Result->Shared->Prop,(∀ι' cv s',tY A ι s ι' H' s'->aT ι' s'.heap v cv->R (.ok (.ret cv)) s')->codeAny G.M A (.call (.ref f) ⟨cvs,[]⟩) R s
  | .exc c H'=> ∀R:Result->Shared->Prop,(∀ι' ev s',pi A ι s c ι' H' s' ev->R (.error ev) s')->codeAny G.M A (.call (.ref f) ⟨cvs,[]⟩) R s
  | .stuck=>True
section
variable {hq:Bool} {k:Nat} {env:Env} {A:Around} {ι ι':List Addr} {q:S} {s s':Shared} {H H':Hp} {h:Heap}
theorem ROk.mono {k':Nat} (x:ROk hq k A) (hk:k'<=k):ROk hq k' A:=⟨x.hd,by haveI:=x.depth;exact mK 0x320a003d2c0000320a103d2c0110032 hk this,aam (Nat.add_le_add_left (Nat.mul_le_mul_left 50 hk) _) x.units⟩
theorem eu (R:oD (A.frames.getD []) ι h) {a:Addr} (ha:a∈lB A):∃o,h.get? a=some o/\ ∃es n,o.data= .dict es n:=by
 refine bP λY9 y9=> ?_
 obtain ⟨e,he,hf⟩:=List.mem_filterMap.mp ha
 obtain ⟨_,L,o,h1,h2,h3,_⟩:=R e he
 refine y9 ?_
 obtain rfl:L=a:=Option.some.inj (h1.symm.trans hf)
 exact ⟨o,h2,h3⟩
theorem kg.after (R:cJ A env ι q s) {hv hl:Heap} (pre:ι<+:ι') (new:∀a∈ι',a∈ι\/s.heap.get? a=none)
  (up:∀a o,s.heap.get? a=some o->a∉ι-> ∃sl,hl.get? a=some { o with slots:=sl })
  (ex:∀a o,s.heap.get? a=some o->a∉ι->a∉lB A->hv.get? a=some o):kg env q.l ι' hv hl:=by
 have im:oG s.heap hv:=λa o e hm=>⟨o.slots,ex a o e (λhi=>by
   obtain ⟨o',e',hm'⟩:=R.st.mut hi
   rw [e] at e';cases e';exact hm hm') λhf=>by
   obtain ⟨o',e',es,n,hd⟩:=eu R.fs hf
   rw [e] at e';cases e';exact hm (.inr (.inl ⟨es,n,hd⟩))⟩
 have cellEx:∀c o v,s.heap.get? c=some o->o.data= .cell v->c∈own env->hv.get? c=some o:=λc o v e hd ho=>ex c o e (R.fr.dis c ho) λhf=>by
   obtain ⟨o',e',es,n,hd'⟩:=eu R.fs hf
   rw [e] at e';cases e';rw [hd] at hd';cases hd'
 refine ⟨R.fr.kind,R.fr.glob,R.fr.blt,?_,?_,?_,R.fr.ndup,?_,R.fr.fresh⟩
 ·obtain ⟨m,⟨o,es,ep,ho,hd,r⟩,hm⟩:=R.fr.loc
  obtain ⟨sl,hs⟩:=up env.locals o ho (R.fr.dis _ (.head _))
  exact ⟨m,⟨_,es,ep,hs,hd,r⟩,λy v e e2=>let ⟨cv,a,b⟩:=hm y v e e2;⟨cv,a,b.mono pre im⟩⟩
 ·intro y v e e2
  obtain ⟨c,o,cv,h1,h2,h3,h4⟩:=R.fr.cel y v e e2
  exact ⟨c,o,cv,h1,cellEx c o _ h2 h3 (List.mem_cons_of_mem _ (aag.mpr ⟨_,bk h1,rfl⟩)),h3,h4.mono pre im⟩
 ·intro p hp
  obtain ⟨o,ov,h1,h2⟩:=R.fr.cells p hp
  exact ⟨o,ov,cellEx p.2 o _ h1 h2 (List.mem_cons_of_mem _ (aag.mpr ⟨p,hp,rfl⟩)),h2⟩
 ·intro a ha hi
  rcases new a hi with h1 | h1
  ·exact R.fr.dis a ha h1
  ·obtain ⟨o,e,_⟩:=R.fr.mut (λ_ _ e=>e) ha
   rw [h1] at e;cases e
theorem bh.ofC (R:cJ A env ι q s) (c:tY A ι s ι' H' s'):bh A env ι s ι' ⟨q.l,H'⟩ s' where
 pre:=c.pre
 rel:=⟨c.st,kg.after R c.pre c.new c.kp.up c.kp.ex,c.fs,c.gens,c.os,R.hn.imm (R.imm' λa o e hW=>c.kp.up a o e λh=>hW (aau _ h))⟩
 kp:=⟨c.kp.size,λa o e hW=>c.kp.up a o e λh=>hW (aau _ h),λa o e hW hf=>c.kp.ex a o e (λh=>hW (aau _ h)) hf⟩
 new:=c.new
theorem dQ.ofC {c:String} {ev:Value} (ha:lg hq k A env) (R:cJ A env ι q s) (x:pi A ι s c ι' H' s' ev):dQ A env ι s c ι' ⟨q.l,H'⟩ s' ev where
 pre:=x.pre
 ex:=by
  refine bP λY9 y9=> ?_
  obtain ⟨e,C,B,h1,h2,h3,h4,h5,h6⟩:=x.ex
  obtain ⟨fenv,rest,f1,f2,_⟩:=ha.fr
  haveI hm:fenv∈A.frames.getD []:=by rw [f1];exact .head _
  obtain ⟨_,L,o,g1,_⟩:=R.fs fenv hm
  refine y9 ?_
  exact ⟨e,C,B,L,h1,h2,by rw [<- f2];exact g1,.fly _ h3 (.inl rfl),h4,kg.after R x.pre x.new x.up h6,h5,λa o e' hW hf=>h6 a o e' (λh=>hW (aau _ h)) hf⟩
 size:=x.size
 up:=λa o e hW=>x.up a o e λh=>hW (aau _ h)
 new:=x.new
 gens:=x.gens
 os:=x.os
noncomputable def br (F:Fc) (vs:List V):Cm V:=λq=>match F vs q.H with
 | .ok v H'=> .ok v ⟨q.l,H'⟩
 | .exc c H'=> .exc c ⟨q.l,H'⟩
 | .stuck=> .stuck
abbrev AD (Q:Value->Shared->Prop) (E:Value->Shared->Prop):Result->Shared->Prop:=λr s'=>match r with | .ok (.ret v)=>Q v s' | .ok _=>False | .error e=>E e s'
theorem D8 {f:Addr} {F:Fc} {k0:Nat} (hF:bW hq k0 f F) (hk:k0<=k) (ha:lg hq k A env) (R:cJ A env ι q s) {vs:List V} {cvs:List Value} (hv:aX ι s.heap vs cvs) :
  bg A env ι s (br F vs q) (aT) (λQ E s=>codeAny G.M A (.call (.ref f) ⟨cvs,[]⟩) (AD Q E) s):=by
 have hr:=hF A ι q.H s vs cvs (ha.toROk.mono hk) (let ⟨fenv,rest,h1,_⟩:=ha.fr;⟨_,h1⟩) R.st R.fs R.gens R.os R.hn hv
 unfold br
 cases h:F vs q.H with
 | stuck=>trivial
 | ok v H'=>rw [h] at hr;exact λQ E hQ=>hr _ λι' cv s' c r=>hQ ι' cv s' (bh.ofC R c) r
 | exc c H'=>rw [h] at hr;exact λQ E hQ=>hr _ λι' ev s' x=>hQ ι' ev s' (dQ.ofC ha R x)
theorem cK {M:Model} {A:Around} {E:Value->Shared->Prop} {s:Shared} {f:Value} {Q:Args->Shared->Prop}:∀ {args:List (Bool×Sem Value)},args.any (·.1)=false ->
  wpAny M A (spliced args) (λvs s'=>Q ⟨vs,[]⟩ s') E s->wpAny M A (evalArgs f true args []) Q E s
 | [],_,h=>by
  unfold evalArgs
  show wpAny M A (spliced [] >>= _) Q E s
  refine wpAny_bind (wpAny_mono h (λvs s' h'=> ?_) λ_ _ x=>x)
  refine wpAny_bind (wpAny_pure ?_)
  refine wpAny_holding ?_
  exact wpAny_bind (wpAny_pure (wpAny_bind (wpAny_pure (wpAny_pure h'))))
 | (false,x)::rest,_,h=>Calls.evalArgs_plain h
 | (true,x)::rest,hp,_=>by simp at hp
theorem bC (C:bJ G) {x:String} {f:Addr} {F:Fc} {k0:Nat} {es:List Expr} {p pos:Pos} {m:Cm (List V)} (hF:bW hq k0 f F) (h1:C8 hq k env es m) (hx:env.kindOf (Str.ofString x)=some .globalImplicit)
  (hv:nsIn G.K mainGlobals (Str.ofString x)=some (some (.ref f))) (hfn:fnIn G.K f=true) (hd:(Str.ofString x==("__debug__" : Str))=false) (hk:k0<=k)
  (hp:(backTo pos (starEach es env)).any (·.1)=false) :
  Ev hq k env (.Call (.Name (Str.ofString x) p) es [] pos) (m.b λvs=>br F vs):=by
 intro A ι q s ha R
 unfold fnIn at hfn
 split at hfn
 ·rename_i oc od fd sl hl
  refine (bg.b (T':=λvs Q E s₁=>s₁.heap.get? f=some ⟨oc,od,.func fd,sl⟩/\codeAny G.M A (.call (.ref f) ⟨vs,[]⟩) (AD Q E) s₁) (h1 pos A ι q s ha R) λa q' ι' b s' _ P hv =>
   (D8 hF hk ha P.rel hv).imp λQ E z=>⟨P.rel.st.keep _ _ (C.X _ _ hl),z⟩).imp λQ E y=> ?_
  show wpAny G.M A (do callWith pos (<- eval (.Name (Str.ofString x) p) env) [] (backTo pos (starEach es env)) []) Q E s
  refine wpAny_bind (cT C R hx hv hd ?_)
  exact Calls.callWith_function (cK hp (wpAny_mono y (λvs s₁ z=>⟨⟨z.1,rfl⟩,wpAny_call z.2⟩) λ_ _ z=>z))
 ·cases hfn
end
section
variable {hq:Bool} {k:Nat} {env:Env} {A:Around} {ι ι':List Addr} {q:S} {s s':Shared} {H H':Hp} {h:Heap}
theorem rX {M:Model} {A:Around} {E:Value->Shared->Prop} {s:Shared} {o:Expr} {name:Str} {apos pos:Pos} {args:List Expr} {Q:Value->Shared->Prop}
  (hbase:attributeBase o name env (eval o env)=eval o env) (hform:methodCallForm args.length (backTo pos (starEach args env)) []=true) (hline:(apos.endLine==pos.line)=true)
  (h:wpAny M A (eval o env) (λov s₁=>wpAny M A (getMethod ov name (do return (<- importBound o env).getD true)) (λfp s₂=>wpAny M A (callWith pos fp.1 fp.2 (backTo pos (starEach args env)) []) Q E s₂) E s₁) E s) :
  wpAny M A (eval (.Call (.Attribute o name apos) args [] pos) env) Q E s:=by
 rw [arm_eval_Call,hbase]
 refine wpAny_bind (wpAny_mono h (λov s₁ h₁=>wpAny_bind (wpAny_standAt ?_)) λ_ _ e=>e)
 haveI hform':methodCallForm (args.length+([]:List Keyword).length) (backTo pos (starEach args env)) (backToKw pos (keywordEach [] env))=true:=hform
 haveI hpos:methodCallPos true o env apos pos=pure pos:=by unfold methodCallPos;simp [hline]
 unfold methodCall
 rw [hform']
 show wpAny M A (holding [ov] (getMethod ov name _) >>= _) Q E s₁
 exact wpAny_bind (wpAny_holding (wpAny_mono h₁ (λfp s₂ h₂=>wpAny_bind (wpAny_of_eq hpos h₂)) λ_ _ e=>e))
noncomputable def cn (K:Frag) (C f:Addr) (name:Str):Bool:=plainGet K C name&&(findIn K (.ref C) name==some (some (.ref f)))&&isFn K (.ref f)&&fnIn K f
noncomputable def dI (c0 f:String) (v:V):Cm Unit:=λq=>match v with
 | .inst c i=>if c=c0 then (match q.H[i]? with
  | some (.flds fs)=>(match fs.lookup f with | some _=> .stuck | none=> .ok () q)
  | _=> .stuck) else .stuck
 | _=> .stuck
theorem EX {c0 f:String} {v:V} {q:S}:dI c0 f v q= .stuck\/(dI c0 f v q= .ok () q/\ ∃i fs,v= .inst c0 i/\q.H[i]? = some (.flds fs)/\fs.lookup f=none):=by
 cases v with
 | inst c i =>
  unfold dI;dsimp only
  split
  ·rename_i hc
   subst hc
   cases e:q.H[i]? with
   | none=>exact .inl rfl
   | some o =>
   cases o with
   | flds fs =>
    dsimp only
    cases hn:fs.lookup f with
    | some _=>exact .inl rfl
    | none=>exact .inr ⟨rfl,i,fs,rfl,e,hn⟩
   | _=>exact .inl rfl
  ·exact .inl rfl
 | _=>exact .inl rfl
theorem aM (C:bJ G) {c0 name:String} {C0 f:Addr} {F:Fc} {k0:Nat} {o:Expr} {es:List Expr} {apos pos:Pos} {m0:Cm V} {m:Cm (List V)} (hok:cn G.K C0 f (Str.ofString name)=true)
  (hF:bW hq k0 f F) (h0:Ev hq k env o m0) (h1:C8 hq k env es m) (hc:G.cls c0=some C0) (hk:k0<=k)
  (hbase:attributeBase o (Str.ofString name) env (eval o env)=eval o env) (hform:methodCallForm es.length (backTo pos (starEach es env)) []=true) (hline:(apos.endLine==pos.line)=true)
  (hp:(backTo pos (starEach es env)).any (·.1)=false) :
  Ev hq k env (.Call (.Attribute o (Str.ofString name) apos) es [] pos) (m0.b λv=>(dI c0 name v).b λ_=>m.b λvs=>br F (v::vs)):=by
 intro A ι q s ha R
 unfold cn at hok
 simp only [aa9,beq_iff_eq] at hok
 refine bP λY9 y9=> ?_
 obtain ⟨⟨⟨k1,k2⟩,k3⟩,k4⟩:=hok
 refine y9 ?_
 unfold fnIn at k4
 split at k4
 ·rename_i oc od fd sl hl
  refine (bg.b (T':=λov Q E s₁=>wpAny G.M A (getMethod ov (Str.ofString name) (do return (<- importBound o env).getD true)) (λfp s₂=>wpAny G.M A (callWith pos fp.1 fp.2 (backTo pos (starEach es env)) []) Q E s₂) E s₁)
   (h0 A ι q s ha R) λv q' ι' b s' _ P hv=> ?_).imp λQ E y=>rX hbase hform hline y
  rcases EX (c0:=c0) (f:=name) (v:=v) (q:=q') with hst | ⟨hok,i,fs,rfl,e,hnone⟩
  ·rw [cE hst];trivial
  ·rw [fB hok]
   refine bP λY9 y9=> ?_
   obtain ⟨a,x,C',ox,es',n,g1,g2,rfl,I,g3,g4,g5⟩:=yf P.rel.st hv e
   refine y9 ?_
   haveI hgl:=qh g5 name
   rw [hnone] at hgl
   obtain rfl:C'=C0:=Option.some.inj (g2.symm.trans hc)
   refine (bg.b (T':=λvs Q E s₁=>s₁.heap.get? f=some ⟨oc,od,.func fd,sl⟩/\codeAny G.M A (.call (.ref f) ⟨.ref x::vs,[]⟩) (AD Q E) s₁) (h1 pos A ι' q' s' ha P.rel) λvs q2 ι2 b2 s2 _ P2 hv2=> ?_).imp λQ E y=> ?_
   ·exact (D8 hF hk ha P2.rel (pf (P2.vrel P.rel hv) hv2)).imp λQ E z=>⟨P2.rel.st.keep _ _ (C.X _ _ hl),z⟩
   ·refine method_fn (C.X.keeps P.rel.st.keep) I (plainGet_of k1).1 (plainGet_of k1).2 k2 (beq_iff_eq.mp k3) (by show (lookIn _ (dictOf es' n)).map _=_;rw [lookIn_dict,hgl];rfl) ?_
    exact Calls.callWith_function (cK hp (wpAny_mono y (λvs s₁ z=>⟨⟨z.1,rfl⟩,wpAny_call z.2⟩) λ_ _ z=>z))
 ·cases k4
noncomputable def xT (k:Int) (es:List (Int×V)):List (Int×V):=es.filter λe=>e.1≠k
noncomputable def gm (o:V):Cm Bool:=λq=>match o with
 | .ref i=>(match q.H[i]? with | some (.list _)=> .ok true q | some (.dict _)=> .ok false q | _=> .stuck)
 | _=> .stuck
noncomputable def ju (o v:V):Cm V:=λq=>match o with
 | .ref i=>(match q.H[i]? with
  | some (.list xs)=>if xs.length<1000000 then .ok .none { q with H:=q.H.set i (.list (xs++[v])) } else .stuck
  | _=> .stuck)
 | _=> .stuck
noncomputable def Fo (o v:V):Cm V:=λq=>match o,v with
 | .ref i,.int k=>(match q.H[i]? with
  | some (.list xs)=>if 0<=k/\k<xs.length/\xs.length<=1000000 then (match xs[k.toNat]? with | some x=> .ok x { q with H:=q.H.set i (.list (xs.eraseIdx k.toNat)) } | none=> .stuck) else .stuck
  | _=> .stuck)
 | _,_=> .stuck
noncomputable def rY (o v:V):Cm V:=λq=>match o,v with
 | .ref i,.int k=>(match q.H[i]? with
  | some (.dict es)=>if es.length<=1000000 then (match es.lookup k with | some x=> .ok x { q with H:=q.H.set i (.dict (xT k es)) } | none=> .stuck) else .stuck
  | _=> .stuck)
 | _,_=> .stuck
noncomputable def ye (o v:V):Cm V:=λq=>match o with
 | .ref i=>(match q.H[i]? with
  | some (.list xs)=>(match toD q.H 8 v,dX (toD q.H 8) xs with
   | some d,some ds=>if (SeqAt.shaped d=true/\SeqAt.shaped (.list ds)=true)/\ds.length<=1000000/\ds.findIdx (λy=>PyData.eqv y d)<ds.length then .ok (.int (ds.findIdx λy=>PyData.eqv y d)) q else .stuck
   | _,_=> .stuck)
  | _=> .stuck)
 | _=> .stuck
theorem zU {o:V} {q:S}:gm o q= .stuck\/(∃i xs,o= .ref i/\q.H[i]? = some (.list xs)/\gm o q= .ok true q)\/(∃i es,o= .ref i/\q.H[i]? = some (.dict es)/\gm o q= .ok false q):=by
 cases o with
 | ref i =>
  cases e:q.H[i]? with
  | none=>exact .inl (by unfold gm;dsimp only;rw [e])
  | some o =>
  cases o with
  | list xs=>exact .inr (.inl ⟨i,xs,rfl,e,by unfold gm;dsimp only;rw [e]⟩)
  | dict es=>exact .inr (.inr ⟨i,es,rfl,e,by unfold gm;dsimp only;rw [e]⟩)
  | flds _=>exact .inl (by unfold gm;dsimp only;rw [e])
 | _=>exact .inl rfl
theorem zq {k:Int}:∀ {es:List (Int×V)} {kvs:List (Int×Value)},kf ι h es kvs->kf ι h (xT k es) (without kvs k)
 | [],_,x=>by rw [show _=[] from x];rfl
 | (k',w)::es,_,z2=>by
  obtain ⟨cw,kvs',q,a,b⟩:=z2
  subst q
  have ih:=zq (k:=k) b
  unfold xT without at ih ⊢
  rw [List.filter_cons,List.filter_cons]
  dsimp only at a ⊢
  by_cases e:k'=k
  ·simp only [e,ne_eq,not_true,decide_false,Bool.false_eq_true,if_false];exact ih
  ·simp only [e,ne_eq,not_false_eq_true,decide_true,if_true];exact ⟨cw,_,rfl,a,ih⟩
theorem Ey (ha:∃hq k,lg hq k A env) (R:cJ A env ι q s) {v:V} {cv:Value} {xs:List V} {vs:List Value} {d:PyData} {ds:List PyData} (h1:aT ι s.heap v cv) (h2:aX ι s.heap xs vs)
  (e1:toD q.H 8 v=some d) (e2:dX (toD q.H 8) xs=some ds) (s1:SeqAt.shaped d=true) (s2:SeqAt.shaped (.list ds)=true) :
  (∀y,y∈vs.toArray->SeqAt.EqAt A.in1 s y cv (PyData.eqv (SeqAt.readOf s.heap y) d))/\vs.map (SeqAt.readOf s.heap)=ds:=by
 haveI hu:=lg.units_lt ha
 obtain ⟨as,r1⟩:=gb R.st h1 e1
 obtain ⟨bs,r2⟩:=gQ (gb R.st) h2 e2
 have c2:PyData.canLayAll0 ds=true:=SeqAt.canLay_of_shaped s2
 exact ⟨SeqAt.items_eqAt (by simpa using r2) r1 c2 (SeqAt.canLay_of_shaped s1) (room_in_shaped s1 (cM 0x1000041a0c11000064a0c111 hu)),SeqAt.readsAll_map _ _ _ c2 r2⟩
theorem A9 {α:Type} (p:α->Bool):∀(l:List α),l.findIdx p<l.length->(∃x,l[l.findIdx p]? = some x/\p x=true)/\ ∀m,m<l.findIdx p-> ∀y,l[m]? = some y->p y=false:=by
 intro l hl
 refine ⟨⟨l[l.findIdx p],by simp,List.findIdx_getElem⟩,λm hm y hy=> ?_⟩
 obtain ⟨h1,rfl⟩:=aab.mp hy
 haveI:=List.not_of_lt_findIdx hm
 simpa using this
theorem pW (C:bJ G) {o v:V} {co cv:Value} (ha:∃hq k,lg hq k A env) (R:cJ A env ι q s) (h1:aT ι s.heap o co) (h2:aT ι s.heap v cv) :
  bg A env ι s (ju o v q) (aT) (mJ A (call (.builtin "list.append") [co,cv])):=by
 cases o with
 | ref i =>
  obtain ⟨a,hi,rfl⟩:=h1
  unfold ju;dsimp only
  cases e:q.H[i]? with
  | none=>trivial
  | some o =>
  cases o with
  | list xs =>
   dsimp only
   split
   ·rename_i hl
    refine bP λY9 y9=> ?_
    obtain ⟨a1,n1,vs,g1,g2,g3⟩:=R.st.list e
    refine y9 ?_
    obtain rfl:a=a1:=Option.some.inj (hi.symm.trans g1)
    refine bg.set (tk:=s.toks) R g1 (Heap.SameBut.update s.heap a (Obj.mapSeq λx=>x.push cv)) (λim=>⟨vs++[cv],?_,(g3.mono (aac _) im).append (pf (h2.mono (aac _) im) yW)⟩) (λim=>HC) λQ E hQ=> ?_
    ·haveI:=g2.update λx=>x.push cv
     exact ⟨_,by simpa using this⟩
    ·exact call_meets F.slot_list_append ⟨_,g2,rfl⟩ F.entry_list_append (F.args_list_append_2 _ _) (list_append a vs.toArray n1 cv (by rw [aaL,g3.length,sizeLine_eq];exact cU 0xb000f4240a0111 hl)) ⟨g2,hQ⟩
   ·trivial
  | _=>trivial
 | _=>trivial
theorem Jf (C:bJ G) {o v:V} {co cv:Value} (ha:∃hq k,lg hq k A env) (R:cJ A env ι q s) (h1:aT ι s.heap o co) (h2:aT ι s.heap v cv) :
  bg A env ι s (Fo o v q) (aT) (mJ A (call (.builtin "list.pop") [co,cv])):=by
 cases o with
 | ref i =>
  cases v with
  | int k =>
   refine bP λY9 y9=> ?_
   obtain ⟨a,hi,rfl⟩:=h1
   refine y9 ?_
   unfold Fo;dsimp only
   cases e:q.H[i]? with
   | none=>trivial
   | some o =>
   cases o with
   | list xs =>
    dsimp only
    split
    ·rename_i hl
     cases hx:xs[k.toNat]? with
     | none=>trivial
     | some x =>
      refine bP λY9 y9=> ?_
      obtain ⟨a1,n1,vs,g1,g2,g3⟩:=R.st.list e
      obtain rfl:a=a1:=Option.some.inj (hi.symm.trans g1)
      obtain ⟨t,rfl⟩:=h2
      obtain ⟨cx,hcx,hrx⟩:=g3.get hx
      refine y9 ?_
      have hlen:=g3.length
      refine bg.set (tk:=s.toks) R g1 (Heap.SameBut.update s.heap a (Obj.mapSeq λxs=>xs.eraseIdxIfInBounds k.toNat)) (λim=>⟨vs.eraseIdx k.toNat,?_,vrels_erase (g3.mono (aac _) im) _⟩) (λim=>hrx.mono (aac _) im) λQ E hQ=> ?_
      ·haveI:=g2.update λxs=>xs.eraseIdxIfInBounds k.toNat
       exact ⟨_,by simpa [List.eraseIdxIfInBounds_toArray] using this⟩
      ·refine call_meets F.slot_list_pop ⟨_,g2,rfl⟩ F.entry_list_pop (F.args_list_pop_2 _ _) (MeetsSeq.list_pop_at a vs.toArray n1 k t k.toNat cx ?_ ?_ (by simpa using hcx) (by rw [aaL,hlen,sizeLine_eq];exact cU 0xb000f4240a0011 hl.2.2)) ⟨g2,hQ⟩
       ·simp [Builtin.List.listFitsIndex];exact JY (hl.1) (j5 0xf42400a090f4240a0010f0912 hl.2.1 hl.2.2)
       ·unfold seqIndex?
        rw [aaL,hlen]
        have:¬(k<0):=bQ 0x90d009811 hl.1
        simp only [this,if_false]
        have h2:0<=k/\k<(xs.length:Int):=⟨hl.1,hl.2.1⟩
        simp [h2]
    ·trivial
   | _=>trivial
  | _=>trivial
 | _=>trivial
where
 vrels_erase:∀ {ι:List Addr} {h:Heap} {vs:List V} {cvs:List Value},aX ι h vs cvs-> ∀(i:Nat),aX ι h (vs.eraseIdx i) (cvs.eraseIdx i)
  | _,_,[],_,x,i=>by rw [show _=[] from x];simp [aX]
  | _,_,_::_,_,⟨v,vs',q,a,b⟩,0=>by subst q;exact b
  | _,_,_::_,_,⟨v,vs',q,a,b⟩,i+1=>by subst q;exact ⟨_,_,rfl,a,vrels_erase b i⟩
theorem AY (C:bJ G) {o v:V} {co cv:Value} (ha:∃hq k,lg hq k A env) (R:cJ A env ι q s) (h1:aT ι s.heap o co) (h2:aT ι s.heap v cv) :
  bg A env ι s (rY o v q) (aT) (mJ A (call (.builtin "dict.pop") [co,cv])):=by
 cases o with
 | ref i =>
  cases v with
  | int k =>
   refine bP λY9 y9=> ?_
   obtain ⟨a,hi,rfl⟩:=h1
   refine y9 ?_
   unfold rY;dsimp only
   cases e:q.H[i]? with
   | none=>trivial
   | some o =>
   cases o with
   | dict es =>
    dsimp only
    split
    ·rename_i hl
     cases hx:es.lookup k with
     | none=>trivial
     | some x =>
      refine bP λY9 y9=> ?_
      obtain ⟨a1,kvs,g1,g2,g3⟩:=R.st.dict e
      obtain rfl:a=a1:=Option.some.inj (hi.symm.trans g1)
      obtain ⟨t,rfl⟩:=h2
      haveI hg:=io g3 k
      rw [hx] at hg
      obtain ⟨cx,hcx,hrx⟩:=hg
      refine y9 ?_
      intro Q E hQ
      refine call_meetsIn F.slot_dict_pop g2.mapOf.typeIs F.entry_dict_pop (F.args_dict_pop_2 _ _) (meets_dict_pop_there (knd:=intKind G.prog G.w) a (intKind_is G.prog G.w k t) [] (.inl rfl) rfl) ⟨kvs,cx,g2,by rw [ua g3,sizeLine_eq];exact cU 0xb000f4240a0011 hl,hcx,λh' e1 e2=> ?_⟩
      have P:=bh.set (tk:=s.toks+1) (o':= .dict (xT k es)) R g1 e2 λim=>⟨_,e1,zq (g3.mono (aac _) im)⟩
      exact hQ ι cx _ P (hrx.mono (aac _) (R.imm P.kp))
    ·trivial
   | _=>trivial
  | _=>trivial
 | _=>trivial
theorem Ga (C:bJ G) {o v:V} {co cv:Value} (ha:∃hq k,lg hq k A env) (R:cJ A env ι q s) (h1:aT ι s.heap o co) (h2:aT ι s.heap v cv) :
  bg A env ι s (ye o v q) (aT) (mJ A (call (.builtin "list.index") [co,cv])):=by
 cases o with
 | ref i =>
  obtain ⟨a,hi,rfl⟩:=h1
  unfold ye;dsimp only
  cases e:q.H[i]? with
  | none=>trivial
  | some o =>
  cases o with
  | list xs =>
   dsimp only
   cases e1:toD q.H 8 v with
   | none=>trivial
   | some d =>
   cases e2:dX (toD q.H 8) xs with
   | none=>trivial
   | some ds =>
    dsimp only
    split
    ·rename_i hc
     refine bP λY9 y9=> ?_
     obtain ⟨⟨s1,s2⟩,l1,l2⟩:=hc
     obtain ⟨a1,n1,vs,g1,g2,g3⟩:=R.st.list e
     refine y9 ?_
     obtain rfl:a=a1:=Option.some.inj (hi.symm.trans g1)
     refine bP λY9 y9=> ?_
     obtain ⟨k1,k2⟩:=Ey ha R h2 g3 e1 e2 s1 s2
     have hlen:vs.length=ds.length:=by rw [<- k2,aai]
     have hj:ds.findIdx (λy=>PyData.eqv y d)<vs.toArray.size:=by rw [aaL,hlen];exact l2
     obtain ⟨⟨x,hx,hpx⟩,hno⟩:=A9 _ ds l2
     refine y9 ?_
     have key:∀m (hm:m<vs.length),ds[m]? = some (SeqAt.readOf s.heap vs[m]):=λm hm=>by rw [<- k2];simp [hm]
     refine bg.ret R (yV _ _) λQ E hQ=>call_meets F.slot_list_index ⟨_,g2,rfl⟩ F.entry_list_index (F.args_list_index_2 _ _)
      (SeqAt.list_indexAt a vs.toArray n1 none #[] cv (λy=>PyData.eqv (SeqAt.readOf s.heap y) d) (ds.findIdx λy=>PyData.eqv y d) hj (Int.lt_of_lt_of_le (Int.ofNat_lt.mpr l2) (Int.le_trans (Int.ofNat_le.mpr l1) ∅)) ?_ λm hm hlt=> ?_) ⟨g2,k1,hQ⟩
     ·haveI:=key (ds.findIdx λy=>PyData.eqv y d) (by rw [hlen];exact l2)
      rw [hx] at this
      simp only [List.getElem_toArray];rw [<- Option.some.inj this];exact hpx
     ·haveI:=key m (by simpa using hm)
      exact hno m hlt _ this
    ·trivial
  | _=>trivial
 | _=>trivial
structure wK (name:String) (kd:Bool):Prop where
 slot:Slot (if kd then "list" else "dict") (Str.ofString name) ((if kd then "list." else "dict.")++name)
 ty:typeOf (.builtin ((if kd then "list." else "dict.")++name))=pure (.type "method_descriptor")
theorem nX:wK "append" true:=⟨F.slot_list_append,F.type_list_append⟩
theorem HU:wK "pop" true:=⟨F.slot_list_pop,F.type_list_pop⟩
theorem Ei:wK "index" true:=⟨F.slot_list_index,F.type_list_index⟩
theorem xR:wK "pop" false:=⟨F.slot_dict_pop,F.type_dict_pop⟩
theorem Id {name:String} {kd:Bool} (B:wK name kd) {o:V} {co:Value} (R:cJ A env ι q s) (h1:aT ι s.heap o co) (hk:gm o q= .ok kd q) {pl:Sem Bool} {Q:Value×List Value->Shared->Prop} {E:Value->Shared->Prop}
  (h:Q (.builtin ((if kd then "list." else "dict.")++name),[co]) s):wpAny G.M A (getMethod co (Str.ofString name) pl) Q E s:=by
 rcases zU (o:=o) (q:=q) with hst | ⟨i,xs,rfl,e,hk'⟩ | ⟨i,es,rfl,e,hk'⟩
 ·rw [hst] at hk;cases hk
 ·rw [hk'] at hk;cases hk
  refine bP λY9 y9=> ?_
  obtain ⟨a1,n1,vs,g1,g2,g3⟩:=R.st.list e
  obtain ⟨a,hi,rfl⟩:=h1
  refine y9 ?_
  obtain rfl:a=a1:=Option.some.inj (hi.symm.trans g1)
  exact getMethod_builtin ⟨_,g2,rfl⟩ F.plainAttrs_list B.slot B.ty (λb e=>by cases e;exact ⟨_,g2,rfl⟩) h
 ·rw [hk'] at hk;cases hk
  refine bP λY9 y9=> ?_
  obtain ⟨a1,kvs,g1,g2,g3⟩:=R.st.dict e
  obtain ⟨a,hi,rfl⟩:=h1
  refine y9 ?_
  obtain rfl:a=a1:=Option.some.inj (hi.symm.trans g1)
  exact getMethod_builtin g2.mapOf.typeIs F.plainAttrs_dict B.slot B.ty g2.mapOf.noDict h
theorem pT (C:bJ G) {name:String} (kd:Bool) {f:V->V->Cm V} (B:wK name kd)
  (hP:∀ {A:Around} {ι:List Addr} {q:S} {s:Shared} {o v:V} {co cv:Value},(∃hq k,lg hq k A env)->cJ A env ι q s->aT ι s.heap o co->aT ι s.heap v cv->bg A env ι s (f o v q) (aT) (mJ A (call (.builtin ((if kd then "list." else "dict.")++name)) [co,cv])))
  {o e:Expr} {apos pos:Pos} {m0 m1:Cm V} (h0:Ev hq k env o m0) (h1:Ev hq k env e m1)
  (hbase:attributeBase o (Str.ofString name) env (eval o env)=eval o env) (hform:methodCallForm 1 (backTo pos (starEach [e] env)) []=true) (hline:(apos.endLine==pos.line)=true)
  (he:starEach [e] env=(false,eval e env)::starEach [] env) (hp:(backTo pos (starEach [e] env)).any (·.1)=false) :
  Ev hq k env (.Call (.Attribute o (Str.ofString name) apos) [e] [] pos) (m0.b λo=>(gm o).b λkd'=>if kd'=kd then m1.b λv=>f o v else .stk):=by
 intro A ι q s ha R
 refine (bg.b (T':=λov Q E s₁=>wpAny G.M A (getMethod ov (Str.ofString name) (do return (<- importBound o env).getD true)) (λfp s₂=>wpAny G.M A (callWith pos fp.1 fp.2 (backTo pos (starEach [e] env)) []) Q E s₂) E s₁)
   (h0 A ι q s ha R) λv q' ι' b s' _ P hv=> ?_).imp λQ E y=>rX hbase hform hline y
 have gv:gm v q'= .ok kd q'->bg A env ι' s' ((m1.b λw=>f v w) q') (aT) (λQ E s₁=>wpAny G.M A (getMethod b (Str.ofString name) (do return (<- importBound o env).getD true)) (λfp s₂=>wpAny G.M A (callWith pos fp.1 fp.2 (backTo pos (starEach [e] env)) []) Q E s₂) E s₁):=by
  intro hk
  refine (bg.b (T':=λw Q E s₁=>wpAny G.M A (call (.builtin ((if kd then "list." else "dict.")++name)) [b,w]) Q E s₁) (h1 A ι' q' s' ha P.rel) λw q2 ι2 b2 s2 _ P2 hv2=>hP ⟨_,_,ha⟩ P2.rel (P2.vrel P.rel hv) hv2).imp λQ E y=> ?_
  refine Id B P.rel hv hk (Calls.callWith_builtin hp (cK hp (wpAny_items_cons (wpAny_mono y (λw s₁ z=>wpAny_items_nil z) λ_ _ z=>z) he)))
 rcases zU (o:=v) (q:=q') with hst | ⟨i,xs,rfl,e',hk'⟩ | ⟨i,es,rfl,e',hk'⟩
 ·rw [cE hst];trivial
 ·rw [fB hk']
  by_cases hb:true=kd
  ·rw [if_pos hb];exact gv (hb▸hk')
  ·rw [if_neg hb];trivial
 ·rw [fB hk']
  by_cases hb:false=kd
  ·rw [if_pos hb];exact gv (hb▸hk')
  ·rw [if_neg hb];trivial
end
section
variable {hq:Bool} {k:Nat} {env:Env} {A:Around} {ι ι':List Addr} {q:S} {s s':Shared} {H H':Hp} {h:Heap}
def tN (bv:Value):Prop:= ∀(M:Model) (A:Around) (pos:Pos) (args:List (Bool×Sem Value)) (Q:Value->Shared->Prop) (E:Value->Shared->Prop) (s:Shared),args.any (·.1)=false ->
 wpAny M A (evalArgs bv true args []) (λa s₁=>wpAny M A (call bv ([]++a.pos) a.kw) Q E s₁) E s->wpAny M A (callWith pos bv [] args []) Q E s
theorem g0 (id:String):tN (.builtin id):=λ_ _ _ _ _ _ _ hp h=>Calls.callWith_builtin hp h
theorem il (T:String):tN (.type T):=λ_ _ _ _ _ _ _ hp h=>callWith_excType hp h
structure I5 (hq:Bool) (k:Nat) (env:Env) (bv:Value) (f:List V->Cm V):Prop where
 c:tN bv
 f:∀A ι q s vs cvs,lg hq k A env->cJ A env ι q s->aX ι s.heap vs cvs->bg A env ι s (f vs q) (aT) (mJ A (call bv cvs))
theorem cq (C:bJ G) {x:String} {bv:Value} {es:List Expr} {p pos:Pos} {m:Cm (List V)} {f:List V->Cm V} (h1:C8 hq k env es m) (hf:I5 hq k env bv f) (hx:env.kindOf (Str.ofString x)=some .globalImplicit) (hv:nsIn G.K mainGlobals (Str.ofString x)=some none)
  (hb:bootBuiltins (Str.ofString x)=some bv) (hn:Str.ofString x ≠ "__name__") (hd:(Str.ofString x==("__debug__" : Str))=false) (hp:(backTo pos (starEach es env)).any (·.1)=false) :
  Ev hq k env (.Call (.Name (Str.ofString x) p) es [] pos) (m.b λvs=>f vs):=by
 intro A ι q s ha R
 refine (bg.b (T':=λvs Q E s₁=>wpAny G.M A (call bv vs) Q E s₁) (h1 pos A ι q s ha R) λa q' ι' b s' _ P hv=>hf.f A ι' q' s' a b ha P.rel hv).imp λQ E y=> ?_
 show wpAny G.M A (do callWith pos (<- eval (.Name (Str.ofString x) p) env) [] (backTo pos (starEach es env)) []) Q E s
 refine wpAny_bind (ff C R hx hv hb hn hd ?_)
 exact hf.c _ _ _ _ _ _ _ hp (cK hp (wpAny_mono y (λvs s₁ z=>z) λ_ _ z=>z))
noncomputable def eW:List V->Cm V
 | [.ref i]=>λq=>(match q.H[i]? with
  | some (.list xs)=>if xs.length<1000000 then .ok (.int xs.length) q else .stuck
  | _=> .stuck)
 | [.tup xs]=>if xs.length<1000000 then .p (.int xs.length) else .stk
 | [.scr]=> .p (.int sn.length)
 | _=> .stk
theorem Je (C:bJ G) (R:cJ A env ι q s) {vs:List V} {cvs:List Value} (hv:aX ι s.heap vs cvs):bg A env ι s (eW vs q) (aT) (mJ A (call (.builtin "len") cvs)):=by
 cases vs with
 | nil=>trivial
 | cons o os =>
 cases os with
 | cons _ _=>cases o<;>trivial
 | nil =>
 obtain ⟨cv,_,rfl,h1,h2⟩:=hv;rw [show _=[] from h2]
 cases o with
 | ref i =>
  obtain ⟨a,hi,rfl⟩:=h1
  unfold eW;dsimp only
  cases e:q.H[i]? with
  | none=>trivial
  | some o =>
   cases o with
   | list xs =>
    dsimp only
    split
    ·rename_i hl
     obtain ⟨a1,n1,vs,g1,g2,g3⟩:=R.st.list e
     obtain rfl:a=a1:=Option.some.inj (hi.symm.trans g1)
     have:((vs.toArray.size:Nat):Int)=(xs.length:Int):=by rw [aaL,g3.length]
     exact bg.ret R (yV _ _) λQ E hQ=>Calls.call_len_list g2.isList (by rw [this];exact J7 (cU 0xf42400a010f4240a0111 hl)) (by rw [this];exact hQ)
    ·trivial
   | _=>trivial
 | tup xs =>
  obtain ⟨a,ws,rfl,ht,hw⟩:=h1
  unfold eW;dsimp only
  split
  ·rename_i hl
   have:((ws.toArray.size:Nat):Int)=(xs.length:Int):=by rw [aaL,hw.length]
   exact bg.ret R (yV _ _) λQ E hQ=>len_tuple ht (by rw [this];exact J7 (cU 0xf42400a010f4240a0111 hl)) (by rw [this];exact hQ)
  ·trivial
 | scr =>
  rw [show cv= .ref G.sa from h1]
  haveI hl:s.heap.IsList G.sa G.sv.toArray:=C.scr.at λo e=>R.st.keep _ _ e
  have:((G.sv.toArray.size:Nat):Int)=(sn.length:Int):=by rw [aaL,IntsAre.length C.isInts]
  haveI hs:sn.length<=63:=C.short
  exact bg.ret R (yV _ _) λQ E hQ=>Calls.call_len_list hl (by rw [this];exact J7 (cU 0xf42400a0100003fa0011 hs)) (by rw [this];exact hQ)
 | _=>trivial
noncomputable def oF:List V->Cm V
 | [.bool b]=> .p (.int (if b then 1 else 0))
 | _=> .stk
theorem Jb (R:cJ A env ι q s) {vs:List V} {cvs:List Value} (hv:aX ι s.heap vs cvs):bg A env ι s (oF vs q) (aT) (mJ A (call (.type "int") cvs)):=by
 unfold oF
 split
 ·obtain ⟨cv,_,rfl,h1,h2⟩:=hv;rw [show _=[] from h2]
  rw [show cv= .bool _ from h1]
  exact bg.ret R (yV _ _) λQ E hQ=>call_int_bool hQ
 ·trivial
noncomputable def gE:List V->Cm V
 | [o]=>λq=>(match ay o q.H with
  | some xs=>if xs.length<=1000000 then .ok (.ref q.H.length) { q with H:=q.H++[.list xs] } else .stuck
  | none=> .stuck)
 | _=> .stk
theorem Ea (C:bJ G) (R:cJ A env ι q s) {vs:List V} {cvs:List Value} (hv:aX ι s.heap vs cvs):bg A env ι s (gE vs q) (aT) (mJ A (call (.type "list") cvs)):=by
 cases vs with
 | nil=>trivial
 | cons o os =>
 cases os with
 | cons _ _=>trivial
 | nil =>
  obtain ⟨cv,_,rfl,h1,h2⟩:=hv;rw [show _=[] from h2]
  unfold gE;dsimp only
  cases e:ay o q.H with
  | none=>trivial
  | some xs =>
   dsimp only
   split
   ·rename_i hl
    obtain ⟨l,vs,rfl,g1,g2⟩:=fV C R.st h1 e
    obtain ⟨o,ho,hc,n,hd⟩:=g1
    intro Q E hQ
    refine call_list_seq l (.inl rfl) ho hc hd (λh' c' hk hD=> ?_) (by rw [aaL,g2.length,sizeLine_eq];exact cU 0xb000f4240a0011 hl)
    exact hQ _ _ _ (bh.alloc (tk:=s.toks) R hk (aaI (aaD _)) ⟨vs,⟨c',hD⟩,g2.mono (aap _ _) (.of_stays hk)⟩) (jr R.st _)
   ·trivial
noncomputable def yT (H:Hp):V->Option String
 | .none=>some "NoneType"
 | .bool _=>some "bool"
 | .int _=>some "int"
 | .str _=>some "str"
 | .tup _=>some "tuple"
 | .scr=>some "list"
 | .ref i=>(match H[i]? with | some (.list _)=>some "list" | some (.dict _)=>some "dict" | _=>none)
 | _=>none
noncomputable def mG (T:String) (v:V):Cm V:=λq=>match yT q.H v with
 | some t=> .ok (.bool (t==T||(t == "bool" && T == "int"))) q
 | none=> .stuck
theorem Iu (C:bJ G) (R:eX ι H h) {v:V} {cv:Value} {t:String} (r:aT ι h v cv) (e:yT H v=some t):∃P:Heap->Prop,A4 (KitX G.K cv (.type t) P) (P h) (cv≠ .builtin "__main__.__loader__#opaque") (t = "NoneType" \/ t = "bool" \/ t = "int" \/ t = "str" \/ t = "tuple" \/ t = "list" \/ t = "dict"):=by
 refine xf λX' kX=> ?_
 have nb:∀ {r:Addr},Value.ref r≠ .builtin "__main__.__loader__#opaque" := λq=>by cases q
 cases v with
 | none=>cases e;obtain rfl:cv= .none:=r;exact kX ⟨_,kitx_none,trivial,(by intro q;cases q),.inl rfl⟩
 | bool b=>cases e;obtain rfl:cv= .bool _:=r;exact kX ⟨_,kitx_bool,trivial,(by intro q;cases q),.inr (.inl rfl)⟩
 | int i=>cases e;obtain ⟨t,rfl⟩:=r;exact kX ⟨_,kitx_int,trivial,(by intro q;cases q),.inr (.inr (.inl rfl))⟩
 | str x=>cases e;obtain ⟨t,rfl⟩:=r;exact kX ⟨_,kitx_str,trivial,(by intro q;cases q),.inr (.inr (.inr (.inl rfl)))⟩
 | tup xs=>cases e;obtain ⟨a,vs,rfl,⟨o,ho,hc,_⟩,_⟩:=r;exact kX ⟨_,kitx_tuple,⟨o,ho,hc⟩,nb,.inr (.inr (.inr (.inr (.inl rfl))))⟩
 | scr =>
  cases e
  obtain ⟨o,ho,hc,_⟩:=C.scr
  obtain rfl:cv= .ref G.sa:=r
  exact kX ⟨_,kitx_list,⟨o,R.keep _ _ ho,hc⟩,nb,.inr (.inr (.inr (.inr (.inr (.inl rfl)))))⟩
 | ref i =>
  unfold yT at e;dsimp only at e
  cases hx:H[i]? with
  | none=>rw [hx] at e;cases e
  | some o =>
  rw [hx] at e
  obtain ⟨a,hi,rfl⟩:=r
  cases o with
  | list xs =>
   cases e
   obtain ⟨a1,n1,vs,g1,g2,g3⟩:=R.list hx
   obtain rfl:a=a1:=Option.some.inj (hi.symm.trans g1)
   exact kX ⟨_,kitx_list,⟨_,g2,rfl⟩,nb,.inr (.inr (.inr (.inr (.inr (.inl rfl)))))⟩
  | dict es =>
   cases e
   obtain ⟨a1,kvs,g1,⟨o,es,ep,ho,hc,_⟩,g3⟩:=R.dict hx
   obtain rfl:a=a1:=Option.some.inj (hi.symm.trans g1)
   exact kX ⟨_,kitx_dict,⟨_,ho,hc.1⟩,nb,.inr (.inr (.inr (.inr (.inr (.inr rfl)))))⟩
  | _=>cases e
 | _=>cases e
noncomputable def pH (K:Frag) (T:String):Bool:=(["NoneType", "bool", "int", "str", "tuple", "list", "dict"]).all λt=>kitOne K (.type t) (.type T)==some (t==T||(t == "bool" && T == "int"))
theorem Jc (C:bJ G) {T:String} (hT:pH G.K T=true) {v:V} {cv:Value} (R:cJ A env ι q s) (hv:aT ι s.heap v cv):bg A env ι s (mG T v q) (aT) (mJ A (call (.builtin "isinstance") [cv,.type T])):=by
 unfold mG
 cases e:yT q.H v with
 | none=>trivial
 | some t =>
  obtain ⟨P,Z,p,hne,ht⟩:=Iu C R.st hv e
  haveI hk:kitOne G.K (.type t) (.type T)=some (t==T||(t == "bool" && T == "int")):=by
   unfold pH at hT
   rw [List.all_eq_true] at hT
   exact beq_iff_eq.mp (hT t (by rcases ht with rfl | rfl | rfl | rfl | rfl | rfl | rfl<;>decide))
  exact λQ E hQ=>kia_one Z (C.X.keeps R.st.keep) p hk hne λtk=>hQ ι _ _ (bh.toks R tk) (vI _)
theorem pU (C:bJ G) {T:String} (hT:pH G.K T=true) {e:Expr} {p p2 pos:Pos} {m:Cm V} (hx:env.kindOf (Str.ofString "isinstance")=some .globalImplicit) (hv:nsIn G.K mainGlobals (Str.ofString "isinstance")=some none)
  (hx2:env.kindOf (Str.ofString T)=some .globalImplicit) (hv2:nsIn G.K mainGlobals (Str.ofString T)=some none) (hb2:bootBuiltins (Str.ofString T)=some (.type T)) (hn2:Str.ofString T ≠ "__name__")
  (hd2:(Str.ofString T==("__debug__" : Str))=false) (h1:Ev hq k env e m) (he:starEach [e,.Name (Str.ofString T) p2] env=(false,eval e env)::starEach [.Name (Str.ofString T) p2] env)
  (hp:(backTo pos (starEach [e,.Name (Str.ofString T) p2] env)).any (·.1)=false) :
  Ev hq k env (.Call (.Name (Str.ofString "isinstance") p) [e,.Name (Str.ofString T) p2] [] pos) (m.b λv=>mG T v):=by
 intro A ι q s ha R
 refine (bg.b (T':=λv Q E s₁=>wpAny G.M A (eval (.Name (Str.ofString T) p2) env) (λw s₂=>wpAny G.M A (call (.builtin "isinstance") [v,w]) Q E s₂) E s₁) (h1 A ι q s ha R) λa q' ι' b s' _ P hv' =>
  (Jc C hT P.rel hv').imp λQ E z=>ff C P.rel hx2 hv2 hb2 hn2 hd2 z).imp λQ E y=> ?_
 show wpAny G.M A (do callWith pos (<- eval (.Name (Str.ofString "isinstance") p) env) [] (backTo pos (starEach [e,.Name (Str.ofString T) p2] env)) []) Q E s
 refine wpAny_bind (ff C R hx hv (v:= .builtin "isinstance") ∅ ∅ ∅ ?_)
 refine Calls.callWith_builtin hp (cK hp (wpAny_items_cons (wpAny_mono y (λv s₁ z=>wpAny_items_cons (wpAny_mono z (λw s₂ u=>wpAny_items_nil u) λ_ _ u=>u)) λ_ _ z=>z) he))
theorem iL (C:bJ G):I5 hq k env (.builtin "len") (eW):=⟨g0 _,λ_ _ _ _ _ _ _ R hv=>Je C R hv⟩
theorem rU (_:bJ G):I5 hq k env (.type "int") oF:=⟨il _,λ_ _ _ _ _ _ _ R hv=>Jb R hv⟩
theorem xJ (C:bJ G):I5 hq k env (.type "list") (gE):=⟨il _,λ_ _ _ _ _ _ _ R hv=>Ea C R hv⟩
end
section
variable {hq:Bool} {k:Nat} {env:Env} {A:Around} {ι ι':List Addr} {q q':S} {s s':Shared} {H H':Hp} {h:Heap}
theorem yo {x:Value} {env env':Env} (e:env.frame=env'.frame):noteFrame x env=noteFrame x env':=by
 unfold noteFrame PySem.frameOf;rw [e]
theorem oD.slots {fs:List Env} {h h':Heap} (x:oD fs ι h) (k:h.UpToSlots h'):oD fs ι h':=λenv he=>by
 refine bP λY9 y9=> ?_
 obtain ⟨a,L,o,b,c,⟨es,n,d⟩,f⟩:=x env he
 obtain ⟨sl,hs⟩:=k L o c λvs q=>by rw [d] at q;cases q
 refine y9 ?_
 exact ⟨a,L,_,b,hs,⟨es,n,d⟩,f⟩
theorem kg.slots {l:bw} {hv hl hl':Heap} (x:kg env l ι hv hl) (k:hl.UpToSlots hl'):kg env l ι hv hl' :=
 ⟨x.kind,x.glob,x.blt,let ⟨m,hn,hm⟩:=x.loc;⟨m,k.ns hn,hm⟩,x.cel,x.cells,x.ndup,x.dis,x.fresh⟩
theorem dQ.at {c:String} {ev:Value} {e C L:Addr} {B:Heap} {h'':Heap} (x:dQ A env ι s c ι' q' s' ev) (h1:ev= .ref e) (h2:G.xcl c=some C) (h3:env.frame=some L)
  (fl:xK B (A.frames.getD []) L e (.ref C) h'') (h5:eX ι' q'.H B) (h6:kg env q'.l ι' B s'.heap) (h7:oD (A.frames.getD []) ι' s'.heap)
  (h8:∀a o,s.heap.get? a=some o->a∉own env++ι->a∉lB A->B.get? a=some o) (up:s'.heap.UpToSlots h''):dQ A env ι s c ι' q' { s' with heap:=h'' } ev:=by
 have fs:=h7.slots up
 have fr:=h6.slots up
 refine ⟨x.pre,⟨e,C,B,L,h1,h2,h3,fl,h5,fr,fs,h8⟩,?_,?_,x.new,x.gens,x.os⟩
 ·intro a o ea
  by_cases h1:a∈own env
  ·obtain ⟨o',e',_⟩:=fr.mut fl.keep h1;exact ⟨o',e'⟩
  ·by_cases h2:a∈ι
   ·refine bP λY9 y9=> ?_
    obtain ⟨i,hi⟩:=List.mem_iff_getElem?.mp h2
    have hi':=getElem?_prefix x.pre hi
    obtain ⟨oa,hoa⟩:∃oa,q'.H[i]? = some oa:=⟨_,aak (h5.len▸(aab.mp hi').1)⟩
    obtain ⟨o',e'⟩:=(h5.obj i a oa hi' hoa).there
    refine y9 ?_
    exact ⟨o',fl.keep _ _ e'⟩
   ·by_cases h3:a∈lB A
    ·obtain ⟨o',e',_⟩:=eu fs h3;exact ⟨o',e'⟩
    ·exact ⟨o,fl.keep _ _ (h8 a o ea (λhm=>(aao.mp hm).elim h1 h2) h3)⟩
 ·intro a o ea hW
  by_cases h3:a∈lB A
  ·refine bP λY9 y9=> ?_
   obtain ⟨sl,e1⟩:=x.up a o ea hW
   obtain ⟨o',e',es,n,d⟩:=eu h7 h3
   rw [e1] at e';cases e'
   obtain ⟨sl2,e2⟩:=up a _ e1 λvs q=>by rw [d] at q;cases q
   refine y9 ?_
   exact ⟨sl2,e2⟩
  ·exact ⟨o.slots,fl.keep _ _ (h8 a o ea hW h3)⟩
def JP (env:Env) (e:Addr) (h:Heap):Prop:= ∃L B fs C,env.frame=some L/\zb B fs e C (rawInt L) h
theorem dQ.noted {c:String} {ev:Value} {Q:Unit->Shared->Prop} {E:Value->Shared->Prop} (ha:lg hq k A env) (x:dQ A env ι s c ι' q' s' ev)
  (hQ:∀e C B L s'',ev= .ref e->env.frame=some L->G.xcl c=some C->zb B (A.frames.getD []) e (.ref C) (rawInt L) s''.heap->eX ι' q'.H B->kg env q'.l ι' B s''.heap->oD (A.frames.getD []) ι' s''.heap ->
   (∀a o,s.heap.get? a=some o->a∉own env++ι->a∉lB A->B.get? a=some o)->dQ A env ι s c ι' q' s'' ev->Q () s''):wpAny G.M A (noteFrame ev env) Q E s':=by
 refine bP λY9 y9=> ?_
 obtain ⟨e,C,B,L,rfl,h2,h3,fl,h5,h6,h7,h8⟩:=x.ex
 obtain ⟨fenv,rest,f1,f2,_⟩:=ha.fr
 refine y9 ?_
 have hfs:A.frames.getD []=fenv::rest:=by rw [f1];rfl
 have gv:∀h',zb B (fenv::rest) e (.ref C) (rawInt L) h'->s'.heap.UpToSlots h'->Q () { s' with heap:=h' }:=λh' y u=>by
  rw [<- hfs] at y
  exact hQ e C B L _ rfl h3 h2 y h5 (h6.slots u) (h7.slots u) h8 (x.at rfl h2 h3 (.fly _ y (.inr rfl)) h5 h6 h7 h8 u)
 rw [hfs] at fl
 rw [yo f2.symm]
 cases fl with
 | made k n f oe vs a0 he hc hd h0 h1 h2=>exact wX f1 f (f2.trans h3) he k n hd h0 h1 h2 λh' y u=>gv h' (hc▸y) u
 | fly fl y hfl=>exact zD f1 (f2.trans h3) y hfl gv
theorem Ek {e:Addr} {E:Value->Shared->Prop} (hh:JP env e s.heap) (hE:E (.ref e) s):cameBackBy G.M A env E (.ref e) s:=by
 refine bP λY9 y9=> ?_
 obtain ⟨L,B,fs,C,h0,y⟩:=hh
 refine y9 ?_
 cases y with
 | mk k n f oe vs a0 T oT ts h1 hc h2 _ _ h3 nT Te h4 h5 h6 =>
 show wpAny _ _ _ _ _ _
 refine wpAny_bind (wpAny_field h1 h2 h3 ?_)
 rw [if_neg (show ¬((Value.ref T==Value.none)=true) from by simp)]
 haveI step:wpAny G.M A (setFlight (.ref e) env.frame) (λ_ s''=>E (.ref e) s'') E s:=by
  unfold setFlight
  refine wpAny_bind (wpAny_field h1 h2 h3 ?_)
  rw [if_pos (show (Value.ref T != Value.none)=true from by simp),h0]
  refine wpAny_setField h4 h5 (Array.getElem?_eq_some_iff.mp h6).1 ?_
  show E (.ref e) { s with heap:=s.heap.update T (Obj.mapFields (·.setIfInBounds 3 (rawInt L))) }
  rw [Heap.update_setField_same s.heap T oT ts 3 (rawInt L) h4 h5 h6]
  exact hE
 first
  | exact wpAny_bind (wpAny_pure step)
  | exact step
theorem dQ.passes {c:String} {ev:Value} {E:Value->Shared->Prop} (ha:lg hq k A env) (x:dQ A env ι s c ι' q' s' ev) (hE:∀s'',dQ A env ι s c ι' q' s'' ev->E ev s'') :
  notedBy G.M A env (cameBackBy G.M A env E) ev s' :=
 dQ.noted ha x λe C B L s'' he hf _ y _ _ _ _ z=>by subst he;exact Ek ⟨L,B,_,_,hf,y⟩ (hE s'' z)
end
structure It where
 xs:List V
 g:Hp->Prop
structure I6 (A:Around) (target:Expr) (I:Addr) (priv:List Addr) (ι0:List Addr) (it:It) (St:Nat->Heap->Prop):Prop where
 mu:∀i h,St i h-> ∀b∈priv,∃o,h.get? b=some o/\DZ o
 frame:∀i h h',St i h->(∀b∈priv,∀o,h.get? b=some o->h'.get? b=some o)->St i h'
 item:∀i x (s:Shared) ι H (Q:Value->Shared->Prop) E,it.xs[i]? = some x->ι0<+:ι->(∀b∈priv,b∉ι)->eX ι H s.heap->it.g H->St i s.heap ->
  (∀v h' tk,(∀b o,b∉priv->s.heap.get? b=some o->h'.get? b=some o)->aT ι h' x v->St (i+1) h'->Q v { s with heap:=h',toks:=tk }) ->
  wpAny G.M A (pyNext (.ref I)) (λr s₁=>match r with | none=>False | some v=>wpAny G.M A (letOwnedTupleGo target (.ref I) v) (λ_ s₂=>Q v s₂) E s₁) E s
 done:∀(s:Shared) ι H (Q:Shared->Prop) E,ι0<+:ι->(∀b∈priv,b∉ι)->eX ι H s.heap->it.g H->St it.xs.length s.heap->sY A s.heap ->
  (∀h' tk,(∀b o,b∉priv->s.heap.get? b=some o->h'.get? b=some o)->Q { s with heap:=h',toks:=tk }) ->
  wpAny G.M A (pyNext (.ref I)) (λr s₁=>match r with | none=>Q s₁ | some v=>False) E s
 self:∀i (s:Shared) (Q:Value->Shared->Prop) (E:Value->Shared->Prop),St i s.heap->Q (.ref I) s->wpAny G.M A (pyIter (.ref I)) Q E s
def zc (A:Around) (target:Expr) (h0:Heap) (ι:List Addr) (h:Heap) (it:It) (cv:Value):Prop :=
 ∃I priv St,cv= .ref I/\St 0 h/\(∀b∈priv,h0.get? b=none/\b∉ι)/\(∀H,eX ι H h->True)/\I6 A target I priv ι it St
def HH (hq:Bool) (k:Nat) (env:Env) (target iter:Expr) (m:Cm It):Prop :=
 ∀A ι q s,lg hq k A env->cJ A env ι q s->bg A env ι s (m q) (λι' h it cv=>zc A target s.heap ι' h it cv/\ ∀q',m q= .ok it q'->it.g q'.H)
  (λQ E s=>wpAny G.M A (eval iter env) (λx s₁=>wpAny G.M A (pyIter x) Q E s₁) E s)
open Classical in
noncomputable def AA (g:Hp->Prop) (rest:Cm Fl):Fl->Cm Fl
 | .next=>λq=>if g q.H then rest q else .stuck
 | .ret v=> .p (.ret v)
noncomputable def dS (g:Hp->Prop) (bd:V->Cm Unit) (body:Cm Fl):List V->Cm Fl
 | []=> .p .next
 | v::r=>(bd v).b λ_=>body.b (AA g (dS g bd body r))
def tX (hq:Bool) (k:Nat) (env:Env) (target:Expr) (bd:V->Cm Unit):Prop :=
 ∀A ι q s v cv,lg hq k A env->cJ A env ι q s->aT ι s.heap v cv->bg A env ι s (bd v q) (λ_ _ _ _=>True) (mJ A (assign target env cv))
section
variable {hq:Bool} {k:Nat} {env:Env} {A:Around} {ι ι':List Addr} {q q':S} {s s':Shared} {H H':Hp} {h:Heap}
theorem bg.of {α β:Type} {r:qT S α} {REL:List Addr->Heap->α->β->Prop} {T:PT β}
  (h:∀Q E,Fin A env ι s r REL Q E->T Q E s):bg A env ι s r REL T:=by
 cases r with
 | ok a q'=>exact λQ E x=>h Q E x
 | exc c q'=>exact λQ E x=>h Q E x
 | stuck=>trivial
theorem cJ.off {priv:List Addr} {h':Heap} {tk:Nat} (R:cJ A env ι q s) (hi:∀b∈priv,b∉ι/\b∉own env/\b∉lB A/\G.hB.get? b=none) (hm:∀b∈priv,∃o,s.heap.get? b=some o/\DZ o)
  (hk:∀b o,b∉priv->s.heap.get? b=some o->h'.get? b=some o):cJ A env ι q { s with heap:=h',toks:=tk }/\oG s.heap h':=by
 have im:oG s.heap h':=λa o e hmu=>⟨o.slots,hk a o (λhp=>by obtain ⟨o',e',m'⟩:=hm a hp;rw [e] at e';cases e';exact hmu m') e⟩
 have pr:ι<+:ι:=aac _
 refine ⟨⟨⟨λb o e=>hk b o (λhp=>by rw [(hi b hp).2.2.2] at e;cases e) (R.st.keep b o e),R.st.len,R.st.nodup,R.st.fresh,λi a o e1 e2=> ?_⟩,
  ⟨R.fr.kind,R.fr.glob,R.fr.blt,?_,?_,?_,R.fr.ndup,R.fr.dis,R.fr.fresh⟩,?_,R.gens,R.os,R.hn.imm im⟩,im⟩
 ·exact (R.st.obj i a o e1 e2).at pr im λo' e=>hk a o' (λhp=>(hi a hp).1 (aaN e1)) e
 ·obtain ⟨m,hn,hmm⟩:=R.fr.loc
  exact ⟨m,hn.at' λo e=>hk _ o (λhp=>(hi _ hp).2.1 (.head _)) e,λy v e e2=>let ⟨cv,a,b⟩:=hmm y v e e2;⟨cv,a,b.mono pr im⟩⟩
 ·intro y v e e2
  refine bP λY9 y9=> ?_
  obtain ⟨c,o,cv,h1,h2,h3,h4⟩:=R.fr.cel y v e e2
  refine y9 ?_
  exact ⟨c,o,cv,h1,hk c o (λhp=>(hi c hp).2.1 (List.mem_cons_of_mem _ (aag.mpr ⟨_,bk h1,rfl⟩))) h2,h3,h4.mono pr im⟩
 ·intro p hp
  refine bP λY9 y9=> ?_
  obtain ⟨o,ov,h1,h2⟩:=R.fr.cells p hp
  refine y9 ?_
  exact ⟨o,ov,hk p.2 o (λhp'=>(hi _ hp').2.1 (List.mem_cons_of_mem _ (aag.mpr ⟨p,hp,rfl⟩))) h1,h2⟩
 ·intro env' he
  refine bP λY9 y9=> ?_
  obtain ⟨b1,L,o',b2,b3,b4,b5,b6⟩:=R.fs env' he
  refine y9 ?_
  exact ⟨b1,L,o',b2,hk L o' (λhp=>(hi L hp).2.2.1 (List.mem_filterMap.mpr ⟨env',he,b2⟩)) b3,b4,b5,b6⟩
theorem cJ.fresh3 (R:cJ A env ι q s) {a:Addr} (ha:s.heap.get? a=none):a∉own env/\a∉lB A/\G.hB.get? a=none:=by
 obtain ⟨_,n2,n3⟩:=R.fresh_ne ha
 refine ⟨n2,λhf=> ?_,n3⟩
 obtain ⟨o,e,_⟩:=eu R.fs hf
 rw [ha] at e;cases e
theorem bh.off {priv:List Addr} {h':Heap} {tk:Nat} (R:cJ A env ι q s) (P:bh A env ι s ι' q' s') (hp:∀b∈priv,s.heap.get? b=none/\b∉ι') (hm:∀b∈priv,∃o,s'.heap.get? b=some o/\DZ o)
  (hk:∀b o,b∉priv->s'.heap.get? b=some o->h'.get? b=some o):bh A env ι s ι' q' { s' with heap:=h',toks:=tk }/\oG s'.heap h':=by
 have off:∀b o,s.heap.get? b=some o->b∉priv:=λb o e hb=>by rw [(hp b hb).1] at e;cases e
 obtain ⟨R',im⟩:=P.rel.off (tk:=tk) (λb hb=>let ⟨x,y,z⟩:=R.fresh3 (hp b hb).1;⟨(hp b hb).2,x,y,z⟩) hm hk
 refine ⟨⟨P.pre,R',⟨λa o e=> ?_,λa o e hW=> ?_,λa o e hW hf=> ?_⟩,P.new⟩,im⟩
 ·obtain ⟨o',e'⟩:=P.kp.size a o e;exact ⟨o',hk a o' (off a o e) e'⟩
 ·obtain ⟨sl,e'⟩:=P.kp.up a o e hW;exact ⟨sl,hk a _ (off a o e) e'⟩
 ·exact hk a o (off a o e) (P.kp.ex a o e hW hf)
theorem Ja {target:Expr} {body:List Stmt} {bd:V->Cm Unit} {m:Cm Fl} {I:Addr} {priv:List Addr} {ι1:List Addr} {it:It} {St:Nat->Heap->Prop} {q1:S} {s1:Shared} (ha:lg hq k A env) (R:cJ A env ι q s)
  (hb:tX hq k env target bd) (hm:DY hq k env body m) (P1:bh A env ι s ι1 q1 s1) (hI:I6 A target I priv ι1 it St) (h0:St 0 s1.heap) (hp:∀b∈priv,s.heap.get? b=none/\b∉ι1) (hg:it.g q1.H)
  {Q:Flow->Shared->Prop} {E:Value->Shared->Prop}
  (hQ:Fin A env ι s (dS it.g bd m it.xs q1) (wM) Q E) :
  codeAny G.M A (.forLoop target (.ref I) body [] env) (λr s'=>match r with | .ok f=>Q f s' | .error e=>cameBackBy G.M A env E e s') s1:=by
 obtain ⟨J,toJ,ofJ⟩:∃J:Nat->Shared->Prop,(∀n s',(∃i ι' q',i<=it.xs.length/\n=it.xs.length+1-i/\ι1<+:ι'/\bh A env ι s ι' q' s'/\St i s'.heap/\it.g q'.H/\(∀b∈priv,b∉ι')/\dS it.g bd m (it.xs.drop i) q'=dS it.g bd m it.xs q1)->J n s')/\ ∀n s',J n s'-> ∃i ι' q',i<=it.xs.length/\n=it.xs.length+1-i/\ι1<+:ι'/\bh A env ι s ι' q' s'/\St i s'.heap/\it.g q'.H/\(∀b∈priv,b∉ι')/\dS it.g bd m (it.xs.drop i) q'=dS it.g bd m it.xs q1:=⟨_,λ_ _ h=>h,λ_ _ h=>h⟩
 refine codeAny_forLoop_any J ?_ (it.xs.length+1) (toJ _ _ ⟨0,ι1,q1,Nat.zero_le _,rfl,aac _,P1,h0,hg,λb hb=>(hp b hb).2,by rw [List.drop_zero]⟩)
 intro n s' hJ
 refine bP λY9 y9=> ?_
 obtain ⟨i,ι',q',hi,rfl,hpre,P,hst,hg',hpi,hr⟩:=ofJ n s' hJ
 refine y9 ?_
 have hp':∀b∈priv,s.heap.get? b=none/\b∉ι':=λb hb=>⟨(hp b hb).1,hpi b hb⟩
 rcases Nat.lt_or_ge i it.xs.length with hlt | hge
 ·obtain ⟨x,hx⟩:∃x,it.xs[i]? = some x:=⟨_,aak hlt⟩
  have hdrop:it.xs.drop i=x::it.xs.drop (i+1):=by
   rw [List.drop_eq_getElem_cons hlt];congr 1;rw [aak hlt] at hx;exact Option.some.inj hx
  rw [hdrop] at hr
  refine wpAny_mono (hI.item i x s' ι' q'.H (λv s₂=>wpAny G.M A (assign target env v) (λ_ s₂=>wpAny G.M A (execs body env) (λf s₃=>match f with
      | .next | .cont=> ∃m',m'<it.xs.length+1-i/\J m' s₃
      | .brk=>Q .next s₃
      | .ret v=>Q (.ret v) s₃) (notedBy G.M A env (cameBackBy G.M A env E)) s₂) (notedBy G.M A env (cameBackBy G.M A env E)) s₂) (notedBy G.M A env (cameBackBy G.M A env E)) hx hpre hpi P.rel.st hg' hst
   λv h' tk hk hv hst'=> ?_) (λr s₁ y=> ?_) λ_ _ y=>y
  ·obtain ⟨P2,im⟩:=bh.off (tk:=tk) R P hp' (hI.mu _ _ hst) hk
   have hA:=hb A ι' q' _ x v ha P2.rel hv
   have hno:∀b∈priv,b∉own env/\b∉lB A:=λb hb=>let ⟨x,y,_⟩:=R.fresh3 (hp b hb).1;⟨x,y⟩
   have stp:∀ {ιa ιb:List Addr} {qa qb:S} {sa sb:Shared},St (i+1) sa.heap->(∀b∈priv,b∉ιa)->bh A env ιa sa ιb qb sb->St (i+1) sb.heap/\ ∀b∈priv,b∉ιb:=λ{ιa ιb qa qb sa sb} hs hn Pa=>by
    refine ⟨hI.frame _ _ _ hs λb hb o e=>Pa.kp.ex b o e (λhm=>(aao.mp hm).elim (hno b hb).1 (hn b hb)) (hno b hb).2,λb hb hm=> ?_⟩
    rcases Pa.new b hm with h1 | h1
    ·exact hn b hb h1
    ·obtain ⟨o,e,_⟩:=hI.mu _ _ hs b hb;rw [h1] at e;cases e
   cases hbd:bd x q' with
   | stuck =>
    haveI:dS it.g bd m it.xs q1= .stuck:=by rw [<- hr];exact cE hbd
    rw [this] at hQ;exact hQ.elim
   | exc c q2 =>
    haveI e:dS it.g bd m it.xs q1= .exc c q2:=by rw [<- hr];exact gC hbd
    rw [e] at hQ
    rw [hbd] at hA
    exact hA _ _ λι2 ev s2 x=>(P2.transX x).passes ha λs'' y=>hQ ι2 ev s'' y
   | ok u q2 =>
    rw [hbd] at hA
    refine hA _ _ λι2 u' s2 Pa _=> ?_
    obtain ⟨hsa,hna⟩:=stp (qa:=q') hst' hpi Pa
    have hr2:(m.b (AA it.g (dS it.g bd m (it.xs.drop (i+1))))) q2=dS it.g bd m it.xs q1:=by
     rw [<- hr];exact (fB (f:=λ_=>m.b (AA it.g (dS it.g bd m (it.xs.drop (i+1))))) hbd).symm
    have P3:=P2.trans Pa
    have hB:=hm A ι2 q2 s2 ha P3.rel
    cases hmb:m q2 with
    | stuck=>rw [cE hmb] at hr2;rw [<- hr2] at hQ;exact hQ.elim
    | exc c q3 =>
     rw [gC hmb] at hr2;rw [<- hr2] at hQ
     rw [hmb] at hB
     exact hB _ _ λι3 ev s3 x=>(P3.transX x).passes ha λs'' y=>hQ ι3 ev s'' y
    | ok f q3 =>
     rw [fB hmb] at hr2
     rw [hmb] at hB
     refine hB _ _ λι3 cf s3 Pb hf=> ?_
     have P4:=P3.trans Pb
     cases f with
     | ret v =>
      obtain ⟨cv,rfl,hv⟩:=hf
      rw [<- hr2] at hQ
      exact hQ ι3 (.ret cv) s3 P4 ⟨cv,rfl,hv⟩
     | next =>
      rw [show cf= .next from hf]
      unfold AA at hr2
      dsimp only at hr2 ⊢
      obtain ⟨hsb,hnb⟩:=stp (qa:=q2) hsa hna Pb
      by_cases hg3:it.g q3.H
      ·rw [if_pos hg3] at hr2
       exact ⟨it.xs.length+1-(i+1),vS 0x30113c192c01192c191c0c212 (aaa (cM 0x191c190c010011 hi)) (sA _ _),toJ _ _ ⟨i+1,ι3,q3,hlt,rfl,hpre.trans (Pa.pre.trans Pb.pre),P4,hsb,hg3,hnb,hr2⟩⟩
      ·rw [if_neg hg3] at hr2;rw [<- hr2] at hQ;exact hQ.elim
  ·cases r with
   | none=>exact y.elim
   | some v=>exact y
 ·haveI hi':i=it.xs.length:=aaf (hi) (hge)
  subst hi'
  rw [List.drop_length] at hr
  refine wpAny_mono (hI.done s' ι' q'.H (λs₁=>Q .next s₁) _ hpre hpi P.rel.st hg' hst P.rel.hn λh' tk hk=> ?_) (λr s₁ y=> ?_) λ_ _ y=>y
  ·obtain ⟨P2,im⟩:=bh.off (tk:=tk) R P hp' (hI.mu _ _ hst) hk
   rw [<- hr] at hQ
   exact hQ ι' .next _ P2 rfl
  ·cases r with
   | none=>exact wpAny_execs_nil y
   | some v=>exact y.elim
end
section
variable {hq:Bool} {k:Nat} {env:Env} {A:Around} {ι ι':List Addr} {q q':S} {s s':Shared} {H H':Hp} {h:Heap}
theorem fb {target iter:Expr} {body:List Stmt} {pos:Pos} {mi:Cm It} {bd:V->Cm Unit} {m:Cm Fl} (h1:HH hq k env target iter mi) (hb:tX hq k env target bd) (hm:DY hq k env body m)
  (hs:∀x,foldedSetIterable iter env x=pure x:=by exact λ_=>rfl):Ex hq k env (.For target iter body [] pos) (mi.b λit=>dS it.g bd m it.xs):=by
 intro A ι q s ha R
 have hi:=h1 A ι q s ha R
 refine bg.of λQ E hQ=>wpAny_For ?_ hs
 cases hmi:mi q with
 | stuck=>rw [cE hmi] at hQ;exact hQ.elim
 | exc c q1=>rw [gC hmi] at hQ;rw [hmi] at hi;exact hi _ _ hQ
 | ok it q1 =>
  rw [fB hmi] at hQ
  rw [hmi] at hi
  refine hi _ _ λι1 cv s1 P1 hr=> ?_
  refine bP λY9 y9=> ?_
  obtain ⟨⟨I,priv,St,rfl,h0,hp,_,hI⟩,hg⟩:=hr
  refine y9 ?_
  exact Ja ha R hb hm P1 hI h0 hp (hg q1 rfl) hQ
theorem bH {x:String} {p:Pos} (hx:y7 env x:=by exact .inl ∅):tX hq k env (.Name (Str.ofString x) p) (a9 x) :=
 λA ι q s v cv ha R hv=>(nV hx R hv).imp λQ E y=>wpAny_assign_Name y
noncomputable def xt (x y:String):V->Cm Unit
 | .tup [a,b]=>(a9 x a).b λ_=>a9 y b
 | _=> .stk
theorem D5 {x y:String} {p p2 pos:Pos} {kk:Nat} (hh:hq=true) (hx:y7 env x) (hy:y7 env y):tX hq k env (.Tuple [.Name (Str.ofString x) p,.Name (Str.ofString y) p2] kk pos) (xt x y):=by
 intro A ι q s v cv ha R hv
 cases v with
 | tup l =>
  cases l with
  | nil=>trivial
  | cons a l =>
  cases l with
  | nil=>trivial
  | cons b l =>
  cases l with
  | cons _ _=>trivial
  | nil =>
  refine bP λY9 y9=> ?_
  obtain ⟨t,vs,rfl,ht,ca,vs1,rfl,ra,cb,vs2,rfl,rb,e⟩:=hv
  refine y9 ?_
  rw [show vs2=[] from e] at ht
  haveI key:∀h',s.heap.StaysIn h'->bg A env ι { s with heap:=h' } (((a9 x a).b λ_=>a9 y b) q) (λ_ _ _ _=>True) (λQ E s₁=>wpAny G.M A (storeName env (Str.ofString x) ca) (λ_ s₂=>wpAny G.M A (storeName env (Str.ofString y) cb) Q E s₂) E s₁):=λh' st=>by
   have R':=R.stays (tk:=s.toks) st
   have im:=oG.of_stays st
   exact bg.b (m:=a9 x a) (T':=λ_ Q E s₁=>wpAny G.M A (storeName env (Str.ofString y) cb) Q E s₁) (nV hx R' (ra.mono (aac _) im)) λ_ q2 ι2 _ s2 _ P2 _ =>
    nV hy P2.rel (P2.vrel R' (rb.mono (aac _) im))
  show bg A env ι s (.ok () ⟨upd (upd q.l x a) y b,q.H⟩) _ _
  intro Q E hQ
  refine assign_Tuple_tuple (ha.hd hh) ht rfl rfl λh' he=> ?_
  have st:s.heap.StaysIn h':=λb o e=>he b o (Nat.ne_of_lt (Heap.lt_size e)) e
  show wpAny G.M A (do holding _ (assign (.Name (Str.ofString x) p) env ca);do holding _ (assign (.Name (Str.ofString y) p2) env cb);pure ()) Q E { s with heap:=h' }
  refine wpAny_bind (wpAny_holding (wpAny_assign_Name ?_))
  refine wpAny_mono (key h' st (λu s₂=>Q () s₂) E λι2 u s2 P2 _=>hQ ι2 () s2 ((bh.stays (tk:=s.toks) R st).trans P2) trivial) (λu s₂ y=> ?_) λ_ _ y=>y
  exact wpAny_bind (wpAny_holding (wpAny_assign_Name (wpAny_mono y (λu s₂ z=>wpAny_pure z) λ_ _ z=>z)))
 | _=>trivial
inductive Jh:Expr->Prop
 | name (x:Str) (p:Pos):Jh (.Name x p)
 | pair (es:List Expr) (kk:Nat) (p:Pos):Jh (.Tuple es kk p)
theorem Br {target:Expr} (ht:Jh target) {I l:Addr} {i:Nat} {v:Value} {Q:Unit->Shared->Prop} {E:Value->Shared->Prop} (hit:s.heap.IsListIter I l i) (hQ:Q () s) :
  wpAny G.M A (letOwnedTupleGo target (.ref I) v) Q E s:=by
 cases ht with
 | name x p=>exact wpAny_pure hQ
 | pair es kk p =>
  cases v with
  | ref T=>exact wpAny_letOwnedTupleGo_listiter hit hQ
  | _=>exact wpAny_pure hQ
noncomputable def d5 (v:V):Cm It:=λq=>match ay v q.H with
 | some xs=> .ok ⟨xs,λH=>ay v H=some xs⟩ q
 | none=> .stuck
theorem fX {h:Heap} {I l:Addr} {i:Nat} (x:h.IsListIter I l i):∃o,h.get? I=some o/\DZ o:=let ⟨o,ho,hc,_⟩:=x;⟨o,ho,.inl ⟨_,hc,by decide⟩⟩
theorem Co {h h':Heap} {I:Addr} (hm:∃o,h.get? I=some o/\DZ o) (hs:Heap.ExtBut I h h'):oG h h':=λa o e hmu=>⟨o.slots,hs a o (λq=>by
 obtain ⟨o',e',m'⟩:=hm;rw [<- q,e] at e';cases e';exact hmu m') e⟩
end
theorem vO:entryFor table "proto.unchain" = some Builtin.«proto.unchain» := entryFor_of_fast ∅
section
variable {prog:Program} {w:World} {A:Around} {s:Shared} {α:Type}
theorem At {Q:α->Shared->Prop} {E:Value->Shared->Prop} (hn:sY A s.heap) {t:Addr} {vs:Array Value} {o:Obj} (h0:s.heap.get? t=some o) (hd:o.data= .fields vs) (h2:2<vs.size) (hc:o.cls= .type "StopIteration")
  (hE:∀h',(∀b o,b≠t->s.heap.get? b=some o->h'.get? b=some o)->(∃o',h'.get? t=some o'/\o'.cls= .type "StopIteration")->E (.ref t) { s with heap:=h' }) :
  wpAny (model prog w) A (raiseNew (.ref t):Sem α) Q E s:=by
 simp only [raiseNew]
 refine wpAny_bind (wpAny_handled ?_)
 cases hh:A.handled with
 | none=>exact wpAny_bind (wpAny_pure (wpAny_throw (hE s.heap (λ_ _ _ e=>e) ⟨o,h0,hc⟩)))
 | some v =>
  refine bP λY9 y9=> ?_
  obtain ⟨e,oe,C,ws,rfl,e1,e2,e3,e4⟩:=hn v hh
  refine y9 ?_
  haveI ne:e≠t:=λq=>by subst q;rw [e1] at h0;cases h0;rw [e2] at hc;cases hc
  dsimp only
  rw [if_pos (show (Value.ref e != Value.ref t)=true by simp [ne])]
  refine wpAny_bind (wpAny_holding (wpAny_runValue (codeAny_builtin vO ?_)))
  show wpAny _ _ (field (.ref e) 2 >>= _) _ _ s
  refine wpAny_bind (wpAny_field e1 e3 e4 ?_)
  rw [if_pos ∅]
  refine wpAny_bind (wpAny_pure (wpAny_pure ?_))
  haveI:=wpAny_setField (M:=model prog w) (A:=A) (E:=E) (i:=2) (x:= .ref e) (Q:=λ_ s'=>wpAny (model prog w) A (throw (.ref t):Sem α) Q E s') h0 hd h2 (wpAny_throw (hE _ (λb o hb eb=>(Heap.get?_update_other _ _ (Ne.symm hb)).trans eb) ⟨_,Heap.get?_update_self _ h0 (Obj.isFreed_of_fields (Obj.data_mapFields hd _)),(Obj.cls_mapFields _ _).trans hc⟩))
  exact wpAny_bind this
theorem xx {β:Type} {F:Value->Sem β} {Q':β->Shared->Prop} {Q:Option Value->Shared->Prop} {E:Value->Shared->Prop} (hn:sY A s.heap) (hF:∀v,F v=raiseNew v)
  (hQ:∀h',s.heap.StaysIn h'->Q none { s with heap:=h' }) :
  wpAny (model prog w) A.in1 (newExc (.type "StopIteration") [] >>= F) Q' (λe s'=>wpAny (model prog w) A (do
   let b <- isInstance e (.type "StopIteration")
   if b=true then pure none else throw e) Q E s') s:=by
 simp only [newExc,newTuple]
 refine wpAny_bind (wpAny_bind (wpAny_newObj_type ?_ (by size_fits)))
 refine wpAny_bind (m:=firstArgMember _ _) (wpAny_of_eq (a:=Value.none) (by first | rfl | (simp only [firstArgMember];rfl)) ?_)
 refine wpAny_newObj_type ?_ (by size_fits)
 rw [hF]
 refine At (A:=A.in1) (sY.imm (A:=A.in1) hn (.of_stays λb o e=>aah _ (aah _ e))) (aaG _ rfl) rfl (by rw [Array.size_append];exact aa4 (show 2<6 by decide) (aaJ _ _)) rfl λh' hk ho=> ?_
 obtain ⟨o',e1,e2⟩:=ho
 refine wpAny_bind (wpAny_isInstance (T := "StopIteration") (b:=true) ⟨_,e1,e2⟩ isSubtype_stop ?_)
 exact wpAny_pure (hQ h' λb o e=>hk b o (Nat.ne_of_lt (Heap.lt_size (aah _ e))) (aah _ (aah _ e)))
theorem vR {Q:Option Value->Shared->Prop} {E:Value->Shared->Prop} {it l:Addr} {i:Nat} {items:Array Value} (hn:sY A s.heap) (hit:s.heap.IsListIter it l i) (hl:s.heap.IsList l items) (hx:items[i]? = none)
  (hQ:∀h',Heap.ExtBut it s.heap h'->Q none { s with heap:=h' }):wpAny (model prog w) A (pyNext (.ref it)) Q E s:=by
 haveI hm:=fX hit
 refine bP λY9 y9=> ?_
 obtain ⟨o,ho,hc,hd⟩:=id hit
 obtain ⟨ol,hol,_,nl,hdl⟩:=hl
 refine y9 ?_
 unfold pyNext
 refine wpAny_bind (wpAny_attempt (wpAny_callSpecial?_slot (name:=Str.ofString "__next__") hit.typeIs slot_listiter_next (wpAny_call_entry slot_listiter_next hit.typeIs entry_listiter_next ?_ (args_listiter_next _))))
 show wpAny _ _ (field (.ref it) 0 >>= _) _ _ s
 refine wpAny_bind (wpAny_field ho hd (x:= .ref l) rfl ?_)
 show wpAny _ _ (if (Value.ref l==Value.none)=true then _ else _) _ _ s
 rw [if_neg (show ¬((Value.ref l==Value.none)=true) from aaW)]
 show wpAny _ _ (field (.ref it) 1 >>= _) _ _ s
 refine wpAny_bind (wpAny_field ho hd (x:= .int i 0) rfl ?_)
 show wpAny _ _ (seqItems? (.ref l) >>= _) _ _ s
 refine wpAny_bind (wpAny_seqItems hol hdl ?_)
 simp only [Int.toNat_natCast,hx]
 refine wpAny_bind (wpAny_rule (wpAny_bind (wpAny_setField ho hd (by simp) ?_)))
 have ex:=(Heap.SameBut.update s.heap it (Obj.mapFields (·.setIfInBounds 0 Value.none))).extBut
 exact xx (hn.imm (Co hm ex)) (λ_=>rfl) λh' hs=>hQ h' λb o hb e=>hs b o (ex b o hb e)
theorem uI {Q:Option Value->Shared->Prop} {E:Value->Shared->Prop} {it:Addr} {x left step:Int} (hn:sY A s.heap) (hit:IsRangeIter s.heap it x left step) (hleft:left<=0)
  (hQ:∀h',s.heap.StaysIn h'->Q none { s with heap:=h' }):wpAny (model prog w) A (pyNext (.ref it)) Q E s:=by
 have hT:s.TypeIs (.ref it) "range_iterator" := ⟨_,hit,rfl⟩
 unfold pyNext
 refine wpAny_bind (wpAny_attempt (wpAny_callSpecial?_slot (name:=Str.ofString "__next__") hT F.slot_range_iterator_next (wpAny_call_entry F.slot_range_iterator_next hT F.entry_range_iterator_next ?_ (F.args_range_iterator_next_1 _))))
 show wpAny _ _ (field (.ref it) 0 >>= _) _ _ s
 refine wpAny_bind (wpAny_field hit rfl (x:=rawInt x) rfl ?_)
 show wpAny _ _ (field (.ref it) 1 >>= _) _ _ s
 refine wpAny_bind (wpAny_field hit rfl (x:=rawInt left) rfl ?_)
 show wpAny _ _ (field (.ref it) 2 >>= _) _ _ s
 refine wpAny_bind (wpAny_field hit rfl (x:=rawInt step) rfl ?_)
 show wpAny _ _ (if left<=0 then _ else _) _ _ s
 rw [if_pos hleft]
 refine wpAny_bind (wpAny_rule ?_)
 refine wpAny_bind ?_
 exact xx hn (λ_=>rfl) hQ
end
section
variable {hq:Bool} {k:Nat} {env:Env} {A:Around} {ι ι':List Addr} {q q':S} {s s':Shared} {H H':Hp} {h:Heap}
theorem EO (C:bJ G) {target:Expr} (ht:Jh target) {I l:Addr} {v:V} {xs:List V} (hv:∀ι',ι<+:ι'-> ∀h,aT ι' h v (.ref l)) (hs:(∃j,v= .ref j)\/v= .scr) (hI:l≠I) :
  I6 A target I [I] ι ⟨xs,λH=>ay v H=some xs⟩ (λi h=>h.IsListIter I l i) where
 mu:=λi h st b hb=>by simp at hb;subst hb;exact fX st
 frame:=λi h h' st hk=>st.at λo e=>hk I (by simp) o e
 item:=λi x s ι' H Q E hx hpre hpi R hg st hQ=>by
  refine bP λY9 y9=> ?_
  obtain ⟨a,vs,e,g1,g2⟩:=fV C R (hv ι' hpre s.heap) hg
  refine y9 ?_
  cases e
  obtain ⟨cv,c1,c2⟩:=g2.get hx
  refine wpAny_pyNext_list_item st g1 (x:=cv) (by simpa using c1) λh' st' hs=> ?_
  exact Br ht st' (hQ cv h' s.toks (λb o hb e=>hs.extBut b o (λq=>hb (by simp [q])) e) (c2.mono (aac _) (Co (fX st) hs.extBut)) st')
 done:=λs ι' H Q E hpre hpi R hg st hn hQ=>by
  refine bP λY9 y9=> ?_
  obtain ⟨a,vs,e,g1,g2⟩:=fV C R (hv ι' hpre s.heap) hg
  refine y9 ?_
  cases e
  refine vR hn st g1 (by simp [g2.length]) λh' hs=> ?_
  exact hQ h' s.toks λb o hb e=>hs b o (λq=>hb (by simp [q])) e
 self:=λi s Q E st hQ=>wpAny_pyIter_listiter st hQ
theorem bX (C:bJ G) {target iter:Expr} (ht:Jh target) {m:Cm V} (h1:Ev hq k env iter m):HH hq k env target iter (m.b λv=>d5 v):=by
 intro A ι q s ha R
 refine bg.of λQ E hQ=> ?_
 have h1':=h1 A ι q s ha R
 cases hm:m q with
 | stuck=>rw [cE hm] at hQ;exact hQ.elim
 | exc c q1=>rw [gC hm] at hQ;rw [hm] at h1';exact h1' _ _ hQ
 | ok v q1 =>
  rw [fB hm] at hQ
  rw [hm] at h1'
  refine h1' _ _ λι1 cv s1 P1 hv=> ?_
  unfold d5 at hQ
  cases hi:ay v q1.H with
  | none=>rw [hi] at hQ;exact hQ.elim
  | some xs =>
   rw [hi] at hQ
   obtain ⟨l,vs,rfl,g1,g2⟩:=fV C P1.rel.st hv hi
   refine wpAny_pyIter_list g1 ?_
   haveI st:s1.heap.StaysIn (s1.heap.push { cls:= .type "list_iterator",data:= .fields #[.ref l,.int 0 0] }):=λb o e=>aah _ e
   have nw:s1.heap.get? s1.heap.objs.size=none:=aaI (aaD _)
   haveI P2:=P1.trans (bh.stays (tk:=s1.toks) P1.rel st)
   haveI hv2:∀ι',ι1<+:ι'-> ∀h,aT ι' h v (.ref l):=λι' hp h=>ut hi hv hp
   refine hQ ι1 _ _ P2 ⟨⟨s1.heap.objs.size,[s1.heap.objs.size],_,rfl,⟨_,aaG _ rfl,rfl,rfl⟩,λb hb=> ?_,λ_ _=>trivial,EO C ht hv2 ?_ λe=> ?_⟩,λq' e=> ?_⟩
   ·simp at hb;subst hb
    refine ⟨?_,(P1.rel.fresh_ne nw).1⟩
    cases e:s.heap.get? s1.heap.objs.size with
    | none=>rfl
    | some o=>obtain ⟨o',e'⟩:=P1.kp.size _ _ e;rw [nw] at e';cases e'
   ·exact Bp hi
   ·obtain ⟨o,e',_⟩:=g1
    rw [e,nw] at e';cases e'
   ·cases e
    exact hi
theorem Hg (C:bJ G) {target:Expr} {x:String} {bv:Value} {es:List Expr} {p pos:Pos} {m:Cm (List V)} {f:List V->Cm It} (hx:env.kindOf (Str.ofString x)=some .globalImplicit) (hv:nsIn G.K mainGlobals (Str.ofString x)=some none)
  (hb:bootBuiltins (Str.ofString x)=some bv) (hn:Str.ofString x ≠ "__name__") (hd:(Str.ofString x==("__debug__" : Str))=false) (hc:tN bv) (h1:C8 hq k env es m) (hp:(backTo pos (starEach es env)).any (·.1)=false)
  (hf:∀A ι q s vs cvs,lg hq k A env->cJ A env ι q s->aX ι s.heap vs cvs->bg A env ι s (f vs q) (λι' h it cv=>zc A target s.heap ι' h it cv/\ ∀q',f vs q= .ok it q'->it.g q'.H)
   (λQ E s=>wpAny G.M A (call bv cvs) (λx s₁=>wpAny G.M A (pyIter x) Q E s₁) E s)) :
  HH hq k env target (.Call (.Name (Str.ofString x) p) es [] pos) (m.b λvs=>f vs):=by
 intro A ι q s ha R
 refine bg.of λQ E hQ=> ?_
 have h1':=h1 pos A ι q s ha R
 show wpAny G.M A (do callWith pos (<- eval (.Name (Str.ofString x) p) env) [] (backTo pos (starEach es env)) []) _ E s
 refine wpAny_bind (ff C R hx hv hb hn hd ?_)
 refine hc _ _ _ _ _ _ _ hp (cK hp ?_)
 cases hm:m q with
 | stuck=>rw [cE hm] at hQ;exact hQ.elim
 | exc c q1=>rw [gC hm] at hQ;rw [hm] at h1';exact h1' _ _ hQ
 | ok vs q1 =>
  rw [fB hm] at hQ
  rw [hm] at h1'
  refine h1' _ _ λι1 cvs s1 P1 hv=> ?_
  haveI h2:=hf A ι1 q1 s1 vs cvs ha P1.rel hv
  refine bg.mono P1 h2 ?_
  cases hfv:f vs q1 with
  | stuck=>rw [hfv] at hQ;exact hQ
  | exc c q2=>rw [hfv] at hQ;exact hQ
  | ok it q2 =>
   rw [hfv] at hQ
   refine λι2 cv s2 P2 r=>hQ ι2 cv s2 P2 ⟨?_,λq' e=> ?_⟩
   ·refine bP λY9 y9=> ?_
    obtain ⟨⟨I,priv,St,e1,e2,e3,e4,e5⟩,_⟩:=r
    refine y9 ?_
    refine ⟨I,priv,St,e1,e2,λb hb=>⟨?_,(e3 b hb).2⟩,e4,e5⟩
    cases e:s.heap.get? b with
    | none=>rfl
    | some o=>obtain ⟨o',e'⟩:=P1.kp.size _ _ e;rw [(e3 b hb).1] at e';cases e'
   ·exact r.2 q' e
noncomputable def bN (a:Int):Nat->List V
 | 0=>[]
 | n+1=> .int a::bN (a+1) n
theorem gH:∀(n:Nat) (a:Int),(bN a n).length=n
 | 0,_=>rfl
 | n+1,a=>by rw [bN,aav,gH n]
theorem uS:∀(n:Nat) (a:Int) (i:Nat) (x:V),(bN a n)[i]? = some x->x= .int (a+i)/\i<n
 | 0,a,i,x,e=>by simp [bN] at e
 | n+1,a,0,x,e=>by simp [bN] at e;exact ⟨by rw [<- e];simp,cU 0x190c0910⟩
 | n+1,a,i+1,x,e=>by
  simp [bN] at e
  obtain ⟨h1,h2⟩:=uS n (a+1) i x e
  exact ⟨by rw [h1];congr 1;push_cast;exact aa0 (j5 0x190fc0c0f190cc80) (j5 0xf190cc190fc0c80),cM 0x191c190c110111 h2⟩
noncomputable def fE:List V->Cm It
 | [.int b]=>if -1000000<b/\b<1000000 then .p ⟨bN 0 b.toNat,λ_=>True⟩ else .stk
 | [.int a,.int b]=>if (-1000000<a/\a<1000000) /\ -1000000<b/\b<1000000 then .p ⟨bN a (b-a).toNat,λ_=>True⟩ else .stk
 | _=> .stk
theorem CL (a b:Int):Builtin.Range.rangeSize a b 1=(((b-a).toNat:Nat):Int):=by
 unfold Builtin.Range.rangeSize
 simp
 split
 ·rename_i h;exact (Int.max_eq_left (Int.sub_nonneg.mpr (Int.le_of_lt h))).symm
 ·rename_i h;exact (Int.max_eq_right (Int.sub_nonpos_of_le (Int.not_lt.mp h))).symm
theorem yw {z:Int} (h1 : -1000000<z) (h2:z<2000000):Builtin.Range.rangeFitsLong z=true:=by
 unfold Builtin.Range.rangeFitsLong;simp
 exact ⟨Int.le_trans ∅ (Int.le_of_lt h1),Int.lt_trans h2 ∅⟩
theorem FA {a b:Int} (ha : -1000000<a/\a<1000000) (hb : -1000000<b/\b<1000000):Builtin.Range.small a b 1=true:=by
 unfold Builtin.Range.small
 simp [CL,yw ha.1 (Int.lt_trans ha.2 ∅),yw hb.1 (Int.lt_trans hb.2 ∅),yw (z:=1) ∅ ∅,yw (z:=max (b-a) 0) (Int.lt_of_lt_of_le ∅ (Int.le_max_right _ _)) (Int.max_lt.mpr ⟨Int.lt_of_lt_of_le (Int.sub_lt_sub hb.2 ha.1) ∅,by decide⟩)]
theorem Dq {x:Str} {p:Pos} {I:Addr} (a:Int) (n:Nat) :
  I6 A (.Name x p) I [I] ι ⟨bN a n,λ_=>True⟩ (λi h=>IsRangeIter h I (a+(i:Nat)) ((n:Int)-(i:Nat)) 1) where
 mu:=λi h st b hb=>by simp at hb;subst hb;exact ⟨_,st,.inl ⟨_,rfl,by decide⟩⟩
 frame:=λi h h' st hk=>hk I (by simp) _ st
 item:=λi x s ι' H Q E hx hpre hpi R hg st hQ=>by
  obtain ⟨rfl,hlt⟩:=uS _ _ _ _ hx
  refine wpAny_pyNext_range_item st (cM 0xf1fe09910111 hlt) λh' st' hs=> ?_
  refine wpAny_pure (hQ _ h' _ (λb o hb e=>hs.extBut b o (λq=>hb (by simp [q])) e) (yV _ _) ?_)
  rw [show a+((i+1:Nat):Int)=a+(i:Int)+1 by push_cast;exact aa0 (j5 0x190f0cc190fc0c80) (j5 0x190fc0c190f0cc80),show (n:Int)-((i+1:Nat):Int)=(n:Int)-(i:Int)-1 by push_cast;exact aa0 (cM 0x191f0fee191fc0fe80) (cM 0x191fc0fe191f0fee80)]
  exact st'
 done:=λs ι' H Q E hpre hpi R hg st hn hQ=>by
  refine uI hn st (by dsimp only;rw [gH];exact cU 0x90f0fe80) λh' hs=> ?_
  exact hQ h' s.toks λb o hb e=>hs b o e
 self:=λi s Q E st hQ=>wpAny_pyIter_rangeiter st hQ
theorem rW {x:Str} {p:Pos} {a b:Int} {t u v:Tok} {tk:Nat} (R:cJ A env ι q s) (ha : -1000000<a/\a<1000000) (hb : -1000000<b/\b<1000000) {Q:Value->Shared->Prop} {E:Value->Shared->Prop}
  (hQ:∀ι'' cv s'',bh A env ι s ι'' q s''->(zc A (.Name x p) s.heap ι'' s''.heap ⟨bN a (b-a).toNat,λ_=>True⟩ cv)->Q cv s'') :
  wpAny G.M A (pyIter (.ref s.heap.objs.size)) Q E { s with heap:=s.heap.push { cls:= .type "range",data:= .fields #[.int a t,.int b u,.int 1 v] },toks:=tk }:=by
 haveI hsz:=CL a b
 refine wpAny_pyIter_range (aaG _ rfl) ?_ ?_
 ·exact FA ha hb
 ·rw [hsz]
  haveI st:s.heap.StaysIn ((s.heap.push { cls:= .type "range",data:= .fields #[.int a t,.int b u,.int 1 v] }).push { cls:= .type "range_iterator",data:= .fields #[rawInt a,rawInt (((b-a).toNat:Nat):Int),rawInt 1] }) :=
   λc o e=>aah _ (aah _ e)
  refine hQ ι _ _ (bh.stays R st) ⟨_,[_],_,rfl,?_,λc hc=> ?_,λ_ _=>trivial,Dq a (b-a).toNat⟩
  ·haveI:=aaG (s.heap.push { cls:= .type "range",data:= .fields #[.int a t,.int b u,.int 1 v] }) (o:={ cls:= .type "range_iterator",data:= .fields #[rawInt a,rawInt (((b-a).toNat:Nat):Int),rawInt 1] }) rfl
   simpa using this
  ·simp at hc;subst hc
   have nw:s.heap.get? (s.heap.push { cls:= .type "range",data:= .fields #[.int a t,.int b u,.int 1 v] }).objs.size=none:=aaI (by rw [Heap.size_push];exact cU 0x190c000)
   rw [Heap.size_push] at nw
   exact ⟨nw,(R.fresh_ne nw).1⟩
theorem Gb {x:Str} {p:Pos} (R:cJ A env ι q s) {vs:List V} {cvs:List Value} (hv:aX ι s.heap vs cvs) :
  bg A env ι s (fE vs q) (λι' h it cv=>zc A (.Name x p) s.heap ι' h it cv/\ ∀q',fE vs q= .ok it q'->it.g q'.H)
   (λQ E s=>wpAny G.M A (call (.type "range") cvs) (λx s₁=>wpAny G.M A (pyIter x) Q E s₁) E s):=by
 cases vs with
 | nil=>trivial
 | cons v vs =>
 cases v with
 | int a =>
  cases vs with
  | nil =>
   obtain ⟨cv,_,rfl,⟨t,rfl⟩,e⟩:=hv;rw [show _=[] from e]
   unfold fE;dsimp only
   split
   ·rename_i hb
    intro Q E hQ
    refine call_range_1 (rW (b:=a) R ∅ hb λι2 cv s2 P r=>hQ ι2 cv s2 P ⟨by simpa using r,λq' e=> ?_⟩)
    cases e;trivial
   ·trivial
  | cons v vs =>
  cases vs with
  | cons _ _=>cases v<;>trivial
  | nil =>
  cases v with
  | int b =>
   obtain ⟨cv,_,rfl,⟨t,rfl⟩,cv2,_,rfl,⟨t2,rfl⟩,e⟩:=hv;rw [show _=[] from e]
   unfold fE;dsimp only
   split
   ·rename_i hb
    intro Q E hQ
    refine call_range_2 (rW (b:=b) R hb.1 hb.2 λι2 cv s2 P r=>hQ ι2 cv s2 P ⟨r,λq' e=> ?_⟩)
    cases e;trivial
   ·trivial
  | _=>trivial
 | _=>trivial
theorem nU (C:bJ G) {x:Str} {px p pos:Pos} {es:List Expr} {m:Cm (List V)} (hx:env.kindOf (Str.ofString "range")=some .globalImplicit) (hv:nsIn G.K mainGlobals (Str.ofString "range")=some none)
  (h1:C8 hq k env es m) (hp:(backTo pos (starEach es env)).any (·.1)=false):HH hq k env (.Name x px) (.Call (.Name (Str.ofString "range") p) es [] pos) (m.b λvs=>fE vs) :=
 Hg C hx hv (bv:= .type "range") ∅ ∅ ∅ (il _) h1 hp λA ι q s vs cvs ha R hv=>Gb R hv
end
noncomputable def qs (K:Frag) (N:Addr):Bool:=match K.lookup N with
 | some ⟨_,_,.dict es _,_⟩=>es.toList.all (λe=>match e.key with | .str _ _=>true | _=>false)&&(nsFind es "__init__").isNone
 | _=>false
noncomputable def Eh:List Value:=[.type "ValueError",.type "Exception",.type "BaseException",.type "object"]
noncomputable def C7 (K:Frag):List Value->Bool
 | .ref a::tl=>(match K.lookup a with | some ⟨_,_,.cls cd,_⟩=>qs K cd.ns&&C7 K tl | _=>false)
 | l=>decide (l=Eh)
noncomputable def ph (K:Frag) (C:Addr):Bool:=match K.lookup C with
 | some ⟨.type "type",_,.cls cd,sl⟩=>(match cd.mro with
   | .ref C'::bm=>decide (C'=C)&&C7 K bm
   | _=>false) && !cd.hasDel&&decide (sl.size=6)&&decide (sl[4]? = some (some (.builtin "ValueError.__new__")))&&qs K cd.ns
 | _=>false
theorem uJ {K:Frag} {N:Addr} {h:Heap} (X:K.In h) (x:qs K N=true):∃m,h.Ns N m/\m "__init__" = none:=by
 unfold qs at x
 cases hl:K.lookup N with
 | none=>rw [hl] at x;cases x
 | some o =>
 rw [hl] at x
 obtain ⟨c,d,da,sl⟩:=o
 cases da with
 | dict es n =>
  dsimp only at x
  rw [aa9,List.all_eq_true] at x
  refine ⟨nsFind es,⟨_,es,n,X _ _ hl,rfl,λe he=> ?_,λ_=>rfl⟩,Option.isNone_iff_eq_none.mp x.2⟩
  have:=x.1 e (Array.mem_toList_iff.mpr he)
  cases hk:e.key with
  | str a b=>exact ⟨_,_,rfl⟩
  | _=>rw [hk] at this;cases this
 | _=>cases x
theorem xI {K:Frag} {h:Heap} (X:K.In h):∀ {l:List Value},C7 K l=true->OwnTail h Eh l
 | [],x=>(nomatch of_decide_eq_true (p:=[]=Eh) x)
 | v::tl,x=>by
  cases v with
  | ref a =>
   change (match K.lookup a with | some ⟨_,_,.cls cd,_⟩=>qs K cd.ns&&C7 K tl | _=>false)=true at x
   cases hl:K.lookup a with
   | none=>rw [hl] at x;cases x
   | some o =>
   rw [hl] at x
   refine bP λY9 y9=> ?_
   obtain ⟨c,d,da,sl⟩:=o
   refine y9 ?_
   cases da with
   | cls cd =>
    dsimp only at x
    rw [aa9] at x
    obtain ⟨m,hn,hi⟩:=uJ X x.1
    exact .own (X _ _ hl) hn hi (xI X x.2)
   | _=>cases x
  | _=>rw [show _=Eh from of_decide_eq_true x];exact .base
theorem I4 {K:Frag} {C:Addr} {h:Heap} (X:K.In h) (x:ph K C=true) :
  ∃nm q N bs bm hdct sx sub ab col dd k0 k1 k2 k3 k5 mN,A5 (h.get? C=some (excClassObj nm q C N bs bm hdct sx sub ab col dd k0 k1 k2 k3 k5 "ValueError.__new__")) (K.lookup C=some (excClassObj nm q C N bs bm hdct sx sub ab col dd k0 k1 k2 k3 k5 "ValueError.__new__")) (h.Ns N mN) (mN "__init__" = none) (OwnTail h Eh bm):=by
 refine xf λX' kX=> ?_
 unfold ph at x
 split at x
 ·rename_i oc dd cd sl hl
  obtain ⟨nm,bs,mro,N,q,hdct,sx,sub,ab,col,hdel⟩:=cd
  simp only [aa9,decide_eq_true_eq,Bool.not_eq_true'] at x
  obtain ⟨⟨⟨⟨hm,hdl⟩,hsz⟩,hmk⟩,hns⟩:=x
  split at hm
  ·rename_i C' bm
   simp only [aa9,decide_eq_true_eq] at hm
   obtain ⟨rfl,ht⟩:=hm
   obtain ⟨l⟩:=sl
   obtain ⟨k0,k1,k2,k3,k5,rfl⟩:=six_places (l:=l) (by simpa using hsz) (by simpa using hmk)
   obtain rfl:hdel=false:=hdl
   obtain ⟨m,hn,hi⟩:=uJ X hns
   exact kX ⟨nm,q,N,bs,bm,hdct,sx,sub,ab,col,dd,k0,k1,k2,k3,k5,m,X _ _ hl,hl,hn,hi,xI X ht⟩
  ·cases hm
 ·cases x
section
variable {hq:Bool} {k:Nat} {env:Env} {A:Around} {ι ι':List Addr} {q q':S} {s s':Shared} {H H':Hp} {h:Heap}
theorem dQ.made {c:String} {C e:Addr} {args:List Value} {h':Heap} {tk:Nat} (ha:lg hq k A env) (R:cJ A env ι q s) (hc:G.xcl c=some C) (hm:Heap.MadeExcOf s.heap h' e (.ref C) args) :
  dQ A env ι s c ι q { s with heap:=h',toks:=tk } (.ref e):=by
 haveI fsn:∀env'∈A.frames.getD [],∀L,env'.frame=some L->L∈lB A:=λenv' he L hf=>List.mem_filterMap.mpr ⟨env',he,hf⟩
 have frm:∀a∈lB A,∃o,s.heap.get? a=some o/\(∃es n,o.data= .dict es n)/\a∉ι/\G.hB.get? a=none:=λa hf=>by
  refine bP λY9 y9=> ?_
  obtain ⟨e',he,hf'⟩:=List.mem_filterMap.mp hf
  obtain ⟨_,L,o,h1,h2,h3,h4,h5⟩:=R.fs e' he
  refine y9 ?_
  obtain rfl:L=a:=Option.some.inj (h1.symm.trans hf')
  exact ⟨o,h2,h3,h4,h5⟩
 have get:∀a o,s.heap.get? a=some o->a∉lB A->(hideAll s.heap (lB A)).get? a=some o:=λa o e n=>hideAll_get _ e n
 have im:oG s.heap (hideAll s.heap (lB A)):=λa o e hmu=>⟨o.slots,get a o e λhf=>by
  refine bP λY9 y9=> ?_
  obtain ⟨o',e',⟨es,n,d⟩,_⟩:=frm a hf
  refine y9 ?_
  rw [e] at e';cases e';exact hmu (.inr (.inl ⟨es,n,d⟩))⟩
 haveI bs:(hideAll s.heap (lB A)).StaysIn h':=λb o e=>hm.keeps b o (of_hideAll _ e)
 haveI st:eX ι q.H (hideAll s.heap (lB A)):=⟨λb o e=>get b o (R.st.keep b o e) (λhf=>by obtain ⟨_,_,_,_,n⟩:=frm b hf;rw [n] at e;cases e),R.st.len,R.st.nodup,R.st.fresh,
  λi a o e1 e2=>(R.st.obj i a o e1 e2).at (aac _) im λo' e'=>get a o' e' λhf=>by obtain ⟨_,_,_,n,_⟩:=frm a hf;exact n (aaN e1)⟩
 refine bP λY9 y9=> ?_
 obtain ⟨fenv,rest,f1,f2,_⟩:=ha.fr
 haveI hfm:fenv∈A.frames.getD []:=by rw [f1];exact .head _
 obtain ⟨_,L,oL,g1,_⟩:=R.fs fenv hfm
 obtain ⟨t,ht,htn,ht'⟩:=hm.there
 refine y9 ?_
 have cellEx:∀c o v,s.heap.get? c=some o->o.data= .cell v->(hideAll s.heap (lB A)).get? c=some o:=λc o v e hd=>get c o e λhf=>by
  refine bP λY9 y9=> ?_
  obtain ⟨o',e',⟨es,n,d⟩,_⟩:=frm c hf
  refine y9 ?_
  rw [e] at e';cases e';rw [hd] at d;cases d
 refine ⟨aac _,⟨e,C,hideAll s.heap (lB A),L,rfl,hc,f2.symm.trans g1,(.made bs ?_ ?_ _ _ (.ref t) ht rfl rfl rfl rfl rfl),st,?_,R.fs.stays hm.keeps,λa o e hW hf=>get a o e hf⟩,
  AT.of_stays hm.keeps,λa o e _=>⟨o.slots,hm.keeps a o e⟩,λ_ h=> .inl h,R.gens,R.os⟩
 ·cases q:(hideAll s.heap (lB A)).get? e with
  | none=>rfl
  | some o=>have:=of_hideAll _ q;rw [hm.new] at this;cases this
 ·haveI:∀fs:List Env,(∀e∈fs,e∈A.frames.getD [])->h'.FunFrames (hideAll s.heap (lB A)) fs:=λfs=>by
   induction fs with
   | nil=>intro _;trivial
   | cons f r ih =>
    intro hmem
    refine bP λY9 y9=> ?_
    obtain ⟨n1,L',o',n2,n3,⟨es,n,n4⟩,_⟩:=R.fs f (hmem f (.head _))
    refine y9 ?_
    exact ⟨n1,⟨L',o',n2,hideAll_none _ (fsn f (hmem f (.head _)) L' n2),hm.keeps _ _ n3,λvs q=>by rw [n4] at q;cases q⟩,ih λe he=>hmem e (.tail _ he)⟩
  exact this _ λe he=>he
 ·refine ⟨R.fr.kind,R.fr.glob,R.fr.blt,?_,?_,?_,R.fr.ndup,R.fr.dis,R.fr.fresh⟩
  ·obtain ⟨m,hn,hmm⟩:=R.fr.loc
   exact ⟨m,hn.keeps hm.keeps,λy v e e2=>let ⟨cv,a,b⟩:=hmm y v e e2;⟨cv,a,b.mono (aac _) im⟩⟩
  ·intro y v e e2
   refine bP λY9 y9=> ?_
   obtain ⟨c,o,cv,h1,h2,h3,h4⟩:=R.fr.cel y v e e2
   refine y9 ?_
   exact ⟨c,o,cv,h1,cellEx c o _ h2 h3,h3,h4.mono (aac _) im⟩
  ·intro p hp
   refine bP λY9 y9=> ?_
   obtain ⟨o,ov,h1,h2⟩:=R.fr.cells p hp
   refine y9 ?_
   exact ⟨o,ov,cellEx p.2 o _ h1 h2,h2⟩
noncomputable def gz {α:Type} (c:String):Cm α:=λq=> .exc c q
theorem fk (C:bJ G) (hh:hq=true) {x:String} {a:Addr} {es:List Expr} {np cpos pos:Pos} {m:Cm (List V)} (hx:env.kindOf (Str.ofString x)=some .globalImplicit)
  (hv:nsIn G.K mainGlobals (Str.ofString x)=some (some (.ref a))) (hc:G.xcl x=some a) (ho:ph G.K a=true) (hd:(Str.ofString x==("__debug__" : Str))=false) (h1:C8 hq k env es m) (hl:es.length<=5)
  (hp:(backTo cpos (starEach es env)).any (·.1)=false) (hlen:∀q vs q',m q= .ok vs q'->vs.length<=1000) :
  Ex hq k env (.Raise (some (.Call (.Name (Str.ofString x) np) es [] cpos)) none pos) (m.b λ_=>gz x):=by
 intro A ι q s ha R
 refine bg.of λQ E hQ=> ?_
 refine bP λY9 y9=> ?_
 obtain ⟨nm,qn,N,bs,bm,hdct,sx,sub,ab,col,dd,k0,k1,k2,k3,k5,mN,hC,_,hN,hni,T⟩:=I4 C.X ho
 refine y9 ?_
 refine wpAny_Raise_call_subT (C:=a) (nm:=nm) (q:=qn) (N:=N) (bs:=bs) (bm:=bm) (hdct:=hdct) (sn:=sx) (sub:=sub) (ab:=ab) (col:=col) (dd:=dd) (k0:=k0) (k1:=k1) (k2:=k2) (k3:=k3) (k5:=k5) (mN:=mN)
  F.excBase_ValueError (T.hasType ∅) (ha.hd hh) hp hni (cT C R hx hv hd ⟨rfl,cK hp ?_⟩)
 have h1':=h1 cpos A ι q s ha R
 cases hm:m q with
 | stuck=>rw [cE hm] at hQ;exact hQ.elim
 | exc c q1=>rw [gC hm] at hQ;rw [hm] at h1';exact h1' _ _ hQ
 | ok vs q1 =>
  rw [fB hm] at hQ
  rw [hm] at h1'
  refine h1' _ _ λι1 cvs s1 P1 hv1=>⟨rfl,by haveI:=hlen q vs q1 hm;rw [hv1.length,sizeLine_eq];exact cU 0xb000003e8a0011 this,P1.rel.st.keep _ _ hC,hN.keeps P1.rel.st.keep,T.keeps P1.rel.st.keep,λh' e hme=> ?_⟩
  exact hQ ι1 (.ref e) _ (P1.transX (dQ.made (tk:=s1.toks) ha P1.rel hc hme))
end
section
variable {hq:Bool} {k:Nat} {env:Env} {A:Around} {ι ι':List Addr} {q q':S} {s s':Shared} {H H':Hp} {h:Heap}
def pk (e C:Addr) (h:Heap):Prop:= ∃B fs,zb B fs e (.ref C) .none h
theorem pk.hn {e C:Addr} {h:Heap} (hl:pk e C h):sY (A.mark (some (.ref e))) h:=λv hv=>by
 obtain ⟨B,fs,y⟩:=hl
 cases y with
 | mk k n f oe vs a0 T oT ts he hc hd h0 h2=>exact ⟨e,oe,C,vs,(Option.some.inj hv).symm,he,hc,hd,h2⟩
theorem cJ.mark {e C:Addr} (hl:pk e C s.heap) (R:cJ A env ι q s):cJ (A.mark (some (.ref e))) env ι q s:=⟨R.st,R.fr,R.fs,R.gens,R.os,hl.hn⟩
theorem bh.unmark {e:Option Value} (R:cJ A env ι q s) (P:bh (A.mark e) env ι s ι' q' s'):bh A env ι s ι' q' s':=⟨P.pre,⟨P.rel.st,P.rel.fr,P.rel.fs,P.rel.gens,P.rel.os,R.hn.imm (R.imm P.kp)⟩,P.kp,P.new⟩
theorem dQ.caught {c:String} {ev:Value} {Q:Unit->Shared->Prop} {E:Value->Shared->Prop} (ha:lg hq k A env) (R:cJ A env ι q s) (x:dQ A env ι s c ι' q' s' ev)
  (hQ:∀e C s₃,ev= .ref e->G.xcl c=some C->pk e C s₃.heap->bh A env ι s ι' q' s₃->Q () s₃) :
  wpAny G.M A (noteFrame ev env) (λ_ s₂=>wpAny G.M A (setFlight ev none) Q E s₂) E s':=by
 refine x.noted ha λe C B L s₂ he hf hc y g5 g6 g7 g8 z=> ?_
 subst he
 refine wY y λh₃ w up=> ?_
 have kk:B.StaysIn h₃:=by cases w with | mk k=>exact k
 have z':=z.at rfl hc hf (.fly _ w (.inl rfl)) g5 g6 g7 g8 up
 exact hQ e C _ rfl hc ⟨B,_,w⟩ ⟨z'.pre,⟨g5.stays kk,(g6.slots up).stays kk λ_ _ e=>e,g7.slots up,z'.gens,z'.os,R.hn.imm (R.imm' z'.up)⟩,⟨z'.size,z'.up,λa o e hW hf=>kk _ _ (g8 a o e hW hf)⟩,z'.new⟩
theorem qi {e C:Addr} {Q:Unit->Shared->Prop} {E:Value->Shared->Prop} (hl:pk e C s.heap) (hQ:Q () s):wpAny G.M A (setFlight (.ref e) none) Q E s:=by
 obtain ⟨B,fs,y⟩:=hl
 cases y with
 | mk k n f oe vs a0 T oT ts h1 hc h3 _ _ h4 nT Te h5 h6 h7 =>
 unfold setFlight
 refine wpAny_bind (wpAny_field h1 h3 h4 ?_)
 rw [if_pos (show (Value.ref T != Value.none)=true from by simp)]
 refine wpAny_setField h5 h6 (Array.getElem?_eq_some_iff.mp h7).1 ?_
 show Q () { s with heap:=s.heap.update T (Obj.mapFields (·.setIfInBounds 3 .none)) }
 rw [Heap.update_setField_same s.heap T oT ts 3 .none h5 h6 h7]
 exact hQ
def xM (k:Nat) (env:Env) (hs:List ExceptHandler) (c:String) (m:Cm Fl):Prop :=
 ∀A ι q s e C,lg false k A env->cJ A env ι q s->G.xcl c=some C->pk e C s.heap ->
  match m q with
  | .ok f q'=> ∀Q E,(∀ι' b s',bh A env ι s ι' q' s'->wM ι' s'.heap f b->Q b s')->wpAny G.M A (handleBy (.ref e) env hs) Q E s
  | _=>True
theorem Bj {hs:List ExceptHandler} {c:String}:xM k env hs c .stk:=λA ι q s e C _ _ _ _=>trivial
noncomputable def Az (m:Cm Fl) (sel:String->Cm Fl):Cm Fl:=λq=>match m q with
 | .ok f q'=> .ok f q'
 | .exc c q'=>(match sel c q' with | .ok f q''=> .ok f q'' | _=> .stuck)
 | .stuck=> .stuck
theorem lg.any (ha:lg hq k A env):lg false k A env:=⟨⟨(λh=>by cases h),ha.depth,ha.units⟩,ha.fr⟩
theorem Ed {body:List Stmt} {h0:ExceptHandler} {hs:List ExceptHandler} {pos:Pos} {m:Cm Fl} {sel:String->Cm Fl} (h1:DY hq k env body m) (h2:∀c,xM k env (h0::hs) c (sel c)) :
  Ex hq k env (.Try body (h0::hs) [] [] pos) (Az m sel):=by
 intro A ι q s ha R
 refine bg.of λQ E hQ=>wpAny_Try_except ?_
 have h1':=h1 A ι q s ha R
 unfold Az at hQ
 cases hm:m q with
 | stuck=>rw [hm] at hQ;exact hQ.elim
 | ok f q1 =>
  rw [hm] at hQ h1'
  refine h1' _ _ λι1 cf s1 P1 hf=> ?_
  have:=hQ ι1 cf s1 P1 hf
  cases f with
  | next=>rw [show cf= .next from hf] at this ⊢;exact wpAny_execs_nil this
  | ret v=>obtain ⟨cv,rfl,_⟩:=hf;exact this
 | exc c q1 =>
  rw [hm] at hQ h1'
  dsimp only at hQ
  refine h1' _ _ λι1 ev s1 x=> ?_
  refine x.caught ha R λe C s3 he hc hl P=> ?_
  subst he
  haveI h2':=h2 c A ι1 q1 s3 e C ha.any P.rel hc hl
  cases hs:sel c q1 with
  | stuck=>rw [hs] at hQ;exact hQ.elim
  | exc c q2=>rw [hs] at hQ;exact hQ.elim
  | ok f q2 =>
   rw [hs] at hQ h2'
   exact h2' Q E λι2 b s4 P4 hf=>hQ ι2 b s4 (P.trans P4) hf
theorem Aa {e:Value} (ha:lg false k A env):lg false k (A.mark (some e)) env:=⟨⟨(λh=>by cases h),ha.depth,ha.units⟩,ha.fr⟩
theorem lC (C:bJ G) {e a b:Addr} {r:Bool} (R:cJ A env ι q s) (hl:pk e a s.heap) (hx:exmOne G.K (.ref a) (.ref b)=some r) {Q:Bool->Shared->Prop} {E:Value->Shared->Prop} (hQ:Q r s) :
  wpAny G.M A (excMatches (.ref e) (.ref b)) Q E s:=by
 obtain ⟨B,fs,y⟩:=hl
 cases y with
 | mk k n f oe vs a0 T oT ts h1 h2 =>
 haveI X:=C.X.keeps R.st.keep
 refine exm_one (M:=G.M) (h:=s.heap) X ?_ hx A Q E s (λ_ _ e=>e) hQ
 rw [<- h2]
 exact (Looks.ld h1).andThen .now
theorem iO (C:bJ G) {x c:String} {np pos:Pos} {a b:Addr} {name:Option Str} {b₀:Stmt} {suite:List Stmt} {rest:List ExceptHandler} {m:Cm Fl} (hx:env.kindOf (Str.ofString x)=some .globalImplicit)
  (hv:nsIn G.K mainGlobals (Str.ofString x)=some (some (.ref b))) (hd:(Str.ofString x==("__debug__" : Str))=false) (hc:G.xcl c=some a) (hm:exmOne G.K (.ref a) (.ref b)=some false) (h1:xM k env rest c m) :
  xM k env (.ExceptHandler (some (.Name (Str.ofString x) np)) name (b₀::suite) pos::rest) c m:=by
 intro A ι q s e a' ha R hc' hl
 obtain rfl:a=a':=Option.some.inj (hc.symm.trans hc')
 haveI h1':=h1 A ι q s e a ha R hc' hl
 cases hmq:m q with
 | stuck=>trivial
 | exc c q1=>trivial
 | ok f q1 =>
  rw [hmq] at h1'
  intro Q E hQ
  have R':cJ (A.mark (some (.ref e))) env ι q s:=R.mark hl
  refine wpAny_handleBy_cons (codeAny_handlers_test (cT C R' hx hv hd (lC C R' hl hm ?_))) (by intro q;cases q)
  exact h1' Q E hQ
theorem He (C:bJ G) {x c:String} {np pos:Pos} {a b:Addr} {b₀:Stmt} {suite:List Stmt} {rest:List ExceptHandler} {m:Cm Fl} (hx:env.kindOf (Str.ofString x)=some .globalImplicit)
  (hv:nsIn G.K mainGlobals (Str.ofString x)=some (some (.ref b))) (hd:(Str.ofString x==("__debug__" : Str))=false) (hc:G.xcl c=some a) (hm:exmOne G.K (.ref a) (.ref b)=some true) (h1:DY false k env (b₀::suite) m) :
  xM k env (.ExceptHandler (some (.Name (Str.ofString x) np)) none (b₀::suite) pos::rest) c m:=by
 intro A ι q s e a' ha R hc' hl
 obtain rfl:a=a':=Option.some.inj (hc.symm.trans hc')
 have R':cJ (A.mark (some (.ref e))) env ι q s:=R.mark hl
 haveI h1':=h1 (A.mark (some (.ref e))) ι q s (Aa ha) R'
 cases hmq:m q with
 | stuck=>trivial
 | exc c q1=>trivial
 | ok f q1 =>
  rw [hmq] at h1'
  intro Q E hQ
  refine wpAny_handleBy_cons (codeAny_handlers_test (cT C R' hx hv hd (lC C R' hl hm ?_))) (by intro q;cases q)
  refine codeAny_handlers_suite (qi hl ?_)
  exact h1' _ _ λι' b s' P hf=>hQ ι' b s' (P.unmark R) hf
noncomputable def AR (x:String) (c:String) (m:Cm Fl):Cm Fl:=(a9 x (.exc c)).b λ_=>m.b λf=>λq=> .ok f ⟨λ_=>none,q.H⟩
theorem dw (C:bJ G) {x y c:String} {np pos:Pos} {a b:Addr} {b₀:Stmt} {suite:List Stmt} {rest:List ExceptHandler} {m:Cm Fl} (hx:env.kindOf (Str.ofString x)=some .globalImplicit)
  (hv:nsIn G.K mainGlobals (Str.ofString x)=some (some (.ref b))) (hd:(Str.ofString x==("__debug__" : Str))=false) (hc:G.xcl c=some a) (hm:exmOne G.K (.ref a) (.ref b)=some true)
  (hy:env.kindOf (Str.ofString y)=some .local) (h1:DY false k env (b₀::suite) m) :
  xM k env (.ExceptHandler (some (.Name (Str.ofString x) np)) (some (Str.ofString y)) (b₀::suite) pos::rest) c (AR y c m):=by
 intro A ι q s e a' ha R hc' hl
 obtain rfl:a=a':=Option.some.inj (hc.symm.trans hc')
 have R':cJ (A.mark (some (.ref e))) env ι q s:=R.mark hl
 haveI hve:aT ι s.heap (.exc c) (.ref e):=by
  obtain ⟨B,fs,y⟩:=hl
  cases y with
  | mk k n f oe vs a0 T oT ts h1 h2 h3=>exact ⟨e,a,oe,hc,rfl,h1,h2,vs,h3⟩
 haveI hst:=nV (A:=A.mark (some (.ref e))) (.inl hy) R' hve
 cases hmq:AR y c m q with
 | stuck=>trivial
 | exc c q1=>trivial
 | ok f q1 =>
  intro Q E hQ
  refine wpAny_handleBy_cons (codeAny_handlers_test (cT C R' hx hv hd (lC C R' hl hm ?_))) (by intro q;cases q)
  refine codeAny_handlers_suite_as (qi hl (hst _ _ λι2 u s2 P2 _=> ?_))
  have h1':=h1 (A.mark (some (.ref e))) ι2 _ s2 (Aa ha) P2.rel
  unfold AR at hmq
  rw [fB (m:=a9 y (.exc c)) (q':=⟨upd q.l y (.exc c),q.H⟩) (a:=()) rfl] at hmq
  cases hm2:m ⟨upd q.l y (.exc c),q.H⟩ with
  | stuck=>rw [cE hm2] at hmq;cases hmq
  | exc c q2=>rw [gC hm2] at hmq;cases hmq
  | ok f2 q2 =>
   rw [fB hm2] at hmq
   cases hmq
   rw [hm2] at h1'
   refine h1' _ _ λι3 b s3 P3 hf=> ?_
   obtain ⟨m3,hn3,_⟩:=P3.rel.fr.loc
   haveI hp:(env.scope.kind == .class||(env.scope.kind == .module&&env.locals != env.globals))=false:=by rw [R.fr.kind];rfl
   refine wpAny_nameGoes hy hn3 hp λh' m' hn' hs'=> ?_
   have P23:bh A env ι s ι3 q2 s3:=(P2.trans P3).unmark R
   have P3':=bh.ownChange (A:=A) (tk:=s3.toks+1) (l':=λ_=>none) P23.rel (.head _) hs' (λo _ es n _=>by
    obtain ⟨o',es',ep',h1,h2,_⟩:=hn';exact ⟨o',h1,es',ep',h2⟩) λim=> ?_
   ·refine hQ ι3 b _ (P23.trans P3') ?_
    cases f with
    | next=>exact hf
    | ret v=>obtain ⟨cv,rfl,hv⟩:=hf;exact ⟨cv,rfl,hv.mono (aac _) (P23.rel.imm P3'.kp)⟩
   ·refine ⟨R.fr.kind,R.fr.glob,R.fr.blt,⟨m',hn',(λy w e1 e2=>by cases e1)⟩,(λy w e1 e2=>by cases e1),λp hp=> ?_,R.fr.ndup,P23.rel.fr.dis,R.fr.fresh⟩
    obtain ⟨o,ov,a,b⟩:=P23.rel.fr.cells p hp
    refine ⟨o,ov,hs'.extBut p.2 o (λq=> ?_) a,b⟩
    obtain ⟨oL,es,ep,hL,hd,_⟩:=hn3
    rw [q,hL] at a;cases a;rw [hd] at b;cases b
end
noncomputable def aF:List String->List V->bw
 | p::ps,v::vs=>upd (aF ps vs) p v
 | _,_=>λ_=>none
noncomputable def gD (ps:List String) (m:Cm Fl):Fc:=λvs H=>if vs.length=ps.length then (match m ⟨aF ps vs,H⟩ with
 | .ok (.ret v) q=> .ok v q.H
 | .ok .next q=> .ok .none q.H
 | .exc c q=> .exc c q.H
 | .stuck=> .stuck) else .stuck
section
variable {hq:Bool} {k:Nat} {env:Env} {A:Around} {ι ι':List Addr} {q q':S} {s s':Shared} {H H':Hp} {h:Heap}
noncomputable def s8 (ps:List String) (vs:List Value):List (Str×Value):=(ps.map Str.ofString).zip vs
theorem pq {kindOf:Str->Option NameKind}:∀(ps:List String) (vs:List V) (cvs:List Value) (m:Str->Option Value),ps.Nodup->aX ι h vs cvs->vs.length=ps.length ->
  (∀x v,aF ps vs x=some v->kindOf (Str.ofString x)=some .local-> ∃cv,bindL kindOf (s8 ps cvs) m (Str.ofString x)=some cv/\aT ι h v cv) /\
  (∀x v,aF ps vs x=some v->kindOf (Str.ofString x)≠some .local-> ∃cv,bindC kindOf (s8 ps cvs) m (Str.ofString x)=some cv/\aT ι h v cv) /\
  (∀x,x∉ps.map Str.ofString->bindL kindOf (s8 ps cvs) m x=m x/\bindC kindOf (s8 ps cvs) m x=m x)/\ ∀x v,aF ps vs x=some v->x∈ps
 | [],vs,cvs,m,_,hv,hl=>by
  haveI:vs=[]:=List.length_eq_zero_iff.mp hl
  subst this
  exact ⟨λx v e=>by simp [aF] at e,λx v e=>by simp [aF] at e,λx _=>⟨rfl,rfl⟩,λx v e=>by simp [aF] at e⟩
 | p::ps,[],cvs,m,_,hv,hl=>by simp at hl
 | p::ps,v::vs,cvs,m,hn,z5,hl=>by
  obtain ⟨cv,cvs',e,r1,r2⟩:=z5
  subst e
  rw [List.nodup_cons] at hn
  haveI hl':vs.length=ps.length:=by simpa using hl
  have hp:Str.ofString p∉ps.map Str.ofString:=λhm=>by
   obtain ⟨y,hy,e⟩:=aag.mp hm
   exact hn.1 (f9 e▸hy)
  have step:s8 (p::ps) (cv::cvs')=(Str.ofString p,cv)::s8 ps cvs':=rfl
  have hin:∀x v',aF (p::ps) (v::vs) x=some v'->(x=p/\v'=v)\/(x≠p/\aF ps vs x=some v'):=λx v' e=>nP e
  have B:=λm'=>pq (kindOf:=kindOf) ps vs cvs' m' hn.2 r2 hl'
  refine ⟨λx v' e1 e2=> ?_,λx v' e1 e2=> ?_,λx hx=> ?_,λx v' e1=> ?_⟩
  ·rcases hin x v' e1 with ⟨rfl,rfl⟩ | ⟨hne,e⟩
   ·rw [step];unfold bindL;rw [if_pos e2,((B _).2.2.1 _ hp).1];exact ⟨cv,if_pos rfl,r1⟩
   ·rw [step];unfold bindL;exact (B _).1 x v' e e2
  ·rcases hin x v' e1 with ⟨rfl,rfl⟩ | ⟨hne,e⟩
   ·rw [step];unfold bindC;rw [if_neg e2,((B _).2.2.1 _ hp).2];exact ⟨cv,if_pos rfl,r1⟩
   ·rw [step];unfold bindC;exact (B _).2.1 x v' e e2
  ·rw [aas,aal,not_or] at hx
   rw [step]
   unfold bindL bindC
   refine ⟨((B _).2.2.1 x hx.2).1.trans ?_,((B _).2.2.1 x hx.2).2.trans ?_⟩
   ·split<;>first | exact if_neg hx.1 | rfl
   ·split<;>first | exact if_neg hx.1 | rfl
  ·rcases hin x v' e1 with ⟨rfl,rfl⟩ | ⟨hne,e⟩
   ·exact .head _
   ·exact .tail _ ((B (λ_=>none)).2.2.2 x v' e)
theorem zb.tail {B:Heap} {fs:List Env} {e:Addr} {C fl:Value} {h:Heap} {en:Env} (x:zb B (en::fs) e C fl h):zb B fs e C fl h:=by
 cases x with
 | mk k n f oe vs a0 T oT ts he hc hd h0 h2 h1 nT Te hT dT h3=>exact ⟨k,n,f.2.2,oe,vs,a0,T,oT,ts,he,hc,hd,h0,h2,h1,nT,Te,hT,dT,h3⟩
theorem dQ.leave {c:String} {ev:Value} {outer:List Env} {R:Result->Shared->Prop} {E:Value->Shared->Prop} {s₁:Shared} {fA:Around} (hf:fA.frames=some (env::outer)) (hA:A.frames=some outer) (x:dQ fA env ι s₁ c ι' q' s' ev)
  (st:s.heap.StaysIn s₁.heap) (own0:∀a∈own env,s.heap.get? a=none) (frm:env.frame=some env.locals)
  (hR:∀s'',pi A ι s c ι' q'.H s'' ev->R (.error ev) s''):wpAny G.M fA (leaving env ev) (λ_ s''=>R (.error ev) s'') E s':=by
 refine bP λY9 y9=> ?_
 obtain ⟨e,C,B,L,rfl,h2,h3,fl,h5,h6,h7,h8⟩:=x.ex
 refine y9 ?_
 have hfs:fA.frames.getD []=env::outer:=by rw [hf];rfl
 have hAs:A.frames.getD []=outer:=by rw [hA];rfl
 haveI hL:L=env.locals:=Option.some.inj (h3.symm.trans frm)
 have hfr:lB fA=env.locals::lB A:=by
  show (fA.frames.getD []).filterMap (·.frame)=_
  rw [hfs,List.filterMap_cons,frm]
  show _=env.locals::(A.frames.getD []).filterMap (·.frame)
  rw [hAs]
 rw [hfs] at fl h7
 have nf:∀a o,s.heap.get? a=some o->a∉ι->a∉lB A->a∉own env++ι/\a∉lB fA:=λa o e hi hfa=>by
  have ho:a∉own env:=λho=>by rw [own0 a ho] at e;cases e
  exact ⟨λhm=>(aao.mp hm).elim ho hi,λhm=>by
   rw [hfr] at hm
   rcases aal.mp hm with rfl | hm
   ·exact ho (.head _)
   ·exact hfa hm⟩
 have exB:∀a o,s.heap.get? a=some o->a∉ι->a∉lB A->B.get? a=some o:=λa o e hi hfa=>h8 a o (st a o e) (nf a o e hi hfa).1 (nf a o e hi hfa).2
 haveI gv:∀h'',zb B outer e (.ref C) .none h''->s'.heap.UpToSlots h''->R (.error (.ref e)) { s' with heap:=h'' }:=λh'' fw up=>by
  have kk:B.StaysIn h'':=by cases fw with | mk k=>exact k
  have fs'':oD outer ι' h'':=λenv' he=>(h7.slots up) env' (.tail _ he)
  refine hR _ ⟨x.pre,⟨e,C,B,rfl,h2,by rw [hAs];exact fw,h5,by rw [hAs];exact fs'',exB⟩,λa o ea=> ?_,λa o ea hi=> ?_,λa ha=> ?_,x.gens,x.os⟩
  ·by_cases h2:a∈ι
   ·refine bP λY9 y9=> ?_
    obtain ⟨i,hi⟩:=List.mem_iff_getElem?.mp h2
    have hi':=getElem?_prefix x.pre hi
    obtain ⟨oa,hoa⟩:∃oa,q'.H[i]? = some oa:=⟨_,aak (h5.len▸(aab.mp hi').1)⟩
    obtain ⟨o',e'⟩:=(h5.obj i a oa hi' hoa).there
    refine y9 ?_
    exact ⟨o',kk _ _ e'⟩
   ·by_cases h3:a∈lB A
    ·obtain ⟨o',e',_⟩:=eu (A:=A) (by rw [hAs];exact fs'') h3;exact ⟨o',e'⟩
    ·exact ⟨o,kk _ _ (exB a o ea h2 h3)⟩
  ·by_cases h3:a∈lB A
   ·haveI ho:a∉own env:=λho=>by rw [own0 a ho] at ea;cases ea
    refine bP λY9 y9=> ?_
    obtain ⟨sl,e1⟩:=x.up a o (st a o ea) λhm=>(aao.mp hm).elim ho hi
    obtain ⟨o',e',es,n,d⟩:=eu (A:=A) (ι:=ι') (h:=s'.heap) (λenv' he=>h7 env' (by rw [hAs] at he;exact .tail _ he)) h3
    rw [e1] at e';cases e'
    obtain ⟨sl2,e2⟩:=up a _ e1 λvs q=>by rw [d] at q;cases q
    refine y9 ?_
    exact ⟨sl2,e2⟩
   ·exact ⟨o.slots,kk _ _ (exB a o ea hi h3)⟩
  ·rcases x.new a ha with h1 | h1
   ·exact .inl h1
   ·refine .inr ?_
    cases e:s.heap.get? a with
    | none=>rfl
    | some o=>rw [st a o e] at h1;cases h1
 have down:∀h'',zb B (env::outer) e (.ref C) (rawInt L) h''->s'.heap.UpToSlots h''->wpAny G.M fA (setFlight (.ref e) none) (λ_ s''=>R (.error (.ref e)) s'') E { s' with heap:=h'' }:=λh'' y u =>
  wY (s:={ s' with heap:=h'' }) y λh3 w u2=>gv h3 w.tail (u.trans u2)
 unfold leaving
 cases fl with
 | made k n f oe vs a0 he hc hd h0 h1 h2=>exact wpAny_bind (wX hf f h3 he k n hd h0 h1 h2 λh' y u=>down h' (hc▸y) u)
 | fly fl y hfl=>exact wpAny_bind (zD hf h3 y hfl down)
structure BT (K:Frag) (f:Addr) (fd:FuncData) (ps:List String) (body:List Stmt):Prop where
 at':∃oc od sl,K.lookup f=some ⟨oc,od,.func fd,sl⟩
 code:codeIn K fd.code fd.qualname=true
 body:fd.body= .stmts body
 clo:fd.closure=[]
 glob:fd.globals=mainGlobals
 blt:fd.builtins=builtinsNs
 bind:∀vals,vals.length=ps.length->bindArgs fd ⟨vals,[]⟩=pure (s8 ps vals)
 kinds:∀x∈ps,fd.scope.names.lookup (Str.ofString x)=some .local\/fd.scope.names.lookup (Str.ofString x)=some .cell
 nd:ps.Nodup
 ndc:((cellsFrom 0 fd.scope.names []).map (·.1)).Nodup
 co:fd.scope.isCoroutine=false
 gen:fd.scope.isGenerator=false
 kd:fd.scope.kind= .function
theorem bW.of (C:bJ G) {f:Addr} {fd:FuncData} {ps:List String} {body:List Stmt} {m:Cm Fl} (Z:BT G.K f fd ps body) (hm:∀L,DY hq k (callEnvC fd L f) body m):bW hq (k+1) f (gD ps m):=by
 intro A ι H s vs cvs ha ⟨fs,hfs⟩ S0 F0 hgens hos hn0 hv
 have hfs':A.frames.getD []=fs:=by rw [hfs];rfl
 unfold gD
 by_cases hlen:vs.length=ps.length
 ·rw [if_pos hlen]
  haveI hlc:cvs.length=ps.length:=hv.length.trans hlen
  refine bP λY9 y9=> ?_
  obtain ⟨oc,od,sl,hK⟩:=Z.at'
  refine y9 ?_
  have X:=C.X.keeps S0.keep
  have key:∀R:Result->Shared->Prop,(∀s₁,InCallC s (callEnvC fd s.heap.objs.size f).locals (bindL (callEnvC fd s.heap.objs.size f).kindOf (s8 ps cvs) λ_=>none) (callEnvC fd s.heap.objs.size f).cells
    (bindC (callEnvC fd s.heap.objs.size f).kindOf (s8 ps cvs) λ_=>none) s₁ ->
   wpAny (model G.prog G.w) (A.deeper (callEnvC fd s.heap.objs.size f)) (execs body (callEnvC fd s.heap.objs.size f)) (λf s'=>R (.ok (.ret (match f with | .ret v=>v | _=> .none))) s')
    (λe s'=>wpAny (model G.prog G.w) (A.deeper (callEnvC fd s.heap.objs.size f)) (leaving (callEnvC fd s.heap.objs.size f) e) (λ_ s''=>R (.error e) s'') (λe' s''=>R (.error e') s'') s') s₁) ->
    codeAny G.M A (.call (.ref f) ⟨cvs,[]⟩) R s:=λR hh=>by
   refine codeAny_call_cells (fd:=fd) (body:=body) (by have:=ha.depth;show A.depth<1000;exact cM 0x3e8a01000320a191c03d0c011 this) (X _ _ hK) rfl (C.lim.keeps S0.keep) (codeRec_of X Z.code) Z.body (Z.bind cvs hlc) Z.clo (λx hx=> ?_) hh Z.co Z.gen Z.kd
   have:x.1∈ps.map Str.ofString:=(List.of_mem_zip hx).1
   obtain ⟨y,hy,e⟩:=aag.mp this
   rw [<- e]
   rcases Z.kinds y hy with h1 | h1
   ·exact .inl h1
   ·exact .inr ⟨h1,cellsFrom_some _ _ _ (.inl h1)⟩
  have start:∀s₁,InCallC s (callEnvC fd s.heap.objs.size f).locals (bindL (callEnvC fd s.heap.objs.size f).kindOf (s8 ps cvs) λ_=>none) (callEnvC fd s.heap.objs.size f).cells
    (bindC (callEnvC fd s.heap.objs.size f).kindOf (s8 ps cvs) λ_=>none) s₁ ->
    lg hq k (A.deeper (callEnvC fd s.heap.objs.size f)) (callEnvC fd s.heap.objs.size f)/\cJ (A.deeper (callEnvC fd s.heap.objs.size f)) (callEnvC fd s.heap.objs.size f) ι ⟨aF ps vs,H⟩ s₁/\s.heap.StaysIn s₁.heap /\
     ∀a∈own (callEnvC fd s.heap.objs.size f),s.heap.get? a=none:=λs₁ I=>by
   have st:s.heap.StaysIn s₁.heap:=I.toInCall.keep
   have ab:∀a∈own (callEnvC fd s.heap.objs.size f),s.heap.get? a=none:=λa ha=>by
    refine aaI ?_
    rcases aal.mp ha with rfl | ha
    ·exact aaD _
    ·obtain ⟨p,hp,rfl⟩:=aag.mp ha
     exact Nat.le_of_lt (I.above p.1 p.2 hp)
   have dis:∀a∈own (callEnvC fd s.heap.objs.size f),a∉ι/\G.hB.get? a=none:=λa ha=>by
    have n:=ab a ha
    refine ⟨λhi=> ?_,?_⟩
    ·obtain ⟨o,e,_⟩:=eX.mut (q:=⟨λ_=>none,H⟩) S0 hi;rw [n] at e;cases e
    ·cases e:G.hB.get? a with
     | none=>rfl
     | some o=>rw [S0.keep a o e] at n;cases n
   refine bP λY9 y9=> ?_
   obtain ⟨hh,tk,es⟩:=I.toInCall.same
   have hv1:=hv.mono (aac ι) (oG.of_stays st)
   obtain ⟨bl,_,_,mem⟩:=pq (kindOf:=(callEnvC fd s.heap.objs.size f).kindOf) ps vs cvs (λ_=>none) Z.nd hv1 hlen
   obtain ⟨_,bc,_,_⟩:=pq (kindOf:=(callEnvC fd s.heap.objs.size f).kindOf) ps vs cvs (λ_=>none) Z.nd hv1 hlen
   refine y9 ?_
   haveI cellAt:∀p∈(callEnvC fd s.heap.objs.size f).cells,(callEnvC fd s.heap.objs.size f).cells.lookup p.1=some p.2:=λp hp=>by
    refine lookup_of_mem_nodup ?_ hp
    show ((cellsFrom (s.heap.objs.size+1) fd.scope.names []).map (·.1)).Nodup
    rw [cellsFrom_names fd.scope.names (s.heap.objs.size+1) 0 [] [] rfl]
    exact Z.ndc
   refine ⟨⟨⟨ha.hd,by have:=ha.depth;show A.depth+1+3*k<=800;exact cM 0x320a103d190cc0000320a191c03d0c011 this,by have:=ha.units;show A.units+3+50*k<=9000;exact cM 0x2328a132d390cc0002328a191c32d0c011 this⟩,?_⟩,⟨S0.stays st,?_,?_,?_,?_,hn0.imm (.of_stays st)⟩,st,ab⟩
   ·exact ⟨callEnvC fd s.heap.objs.size f,fs,Around.frames_deeper hfs,rfl,Z.gen,Z.co,Z.blt,Z.glob⟩
   ·refine ⟨Z.kd,Z.glob,Z.blt,⟨_,I.toInCall.ns,bl⟩,λx v e1 e2=> ?_,λp hp=> ?_,?_,λa ha=>(dis a ha).1,λa ha=>(dis a ha).2⟩
    ·refine bP λY9 y9=> ?_
     obtain ⟨cv,c1,c2⟩:=bc x v e1 (by rcases e2 with e2 | e2<;>rw [e2]<;>decide)
     haveI hk:fd.scope.names.lookup (Str.ofString x)=some .cell:=by
      rcases Z.kinds x (mem x v e1) with h1 | h1
      ·haveI e3:(callEnvC fd s.heap.objs.size f).kindOf (Str.ofString x)=some .local:=h1
       rw [e3] at e2;rcases e2 with e2 | e2<;>cases e2
      ·exact h1
     obtain ⟨c,hc⟩:=aaQ.mp (cellsFrom_some fd.scope.names (s.heap.objs.size+1) [] (.inl hk))
     obtain ⟨o,ho,hd⟩:=I.cell _ _ hc
     refine y9 ?_
     rw [c1] at hd
     exact ⟨c,o,cv,hc,ho,hd,c2⟩
    ·obtain ⟨o,ho,hd⟩:=I.cell _ _ (cellAt p hp)
     exact ⟨o,_,ho,hd⟩
    ·exact List.pairwise_map.mpr I.apart
   ·show oD ((A.deeper (callEnvC fd s.heap.objs.size f)).frames.getD []) ι s₁.heap
    rw [Around.frames_deeper hfs]
    intro env' he
    rcases aal.mp he with rfl | he
    ·refine bP λY9 y9=> ?_
     obtain ⟨o,es',ep,ho,hd,_⟩:=I.toInCall.ns
     refine y9 ?_
     exact ⟨by rw [show (callEnvC fd s.heap.objs.size f).scope.kind= .function from Z.kd];decide,_,o,rfl,ho,⟨es',ep,hd⟩,(dis _ (.head _)).1,(dis _ (.head _)).2⟩
    ·rw [hfs'] at F0;exact F0.stays st env' he
   ·rw [es];exact hgens
   ·rw [es];exact hos
  have back:∀ {s₁ ι' q' s'},bh (A.deeper (callEnvC fd s.heap.objs.size f)) (callEnvC fd s.heap.objs.size f) ι s₁ ι' q' s'->s.heap.StaysIn s₁.heap->(∀a∈own (callEnvC fd s.heap.objs.size f),s.heap.get? a=none) ->
    tY A ι s ι' q'.H s':=λ{s₁ ι' q' s'} P st ab=>by
   have nf:∀a o,s.heap.get? a=some o->a∉ι->a∉own (callEnvC fd s.heap.objs.size f)++ι:=λa o e hi hm=>(aao.mp hm).elim (λho=>by rw [ab a ho] at e;cases e) hi
   refine ⟨P.pre,P.rel.st,λenv' he=> ?_,⟨λa o e=>P.kp.size a o (st a o e),λa o e hi=>P.kp.up a o (st a o e) (nf a o e hi),λa o e hi hf=>P.kp.ex a o (st a o e) (nf a o e hi) λhm=> ?_⟩,λa ha=> ?_,P.rel.gens,P.rel.os⟩
   ·have:=P.rel.fs
    rw [Around.frames_deeper hfs] at this
    rw [hfs'] at he
    exact this env' (.tail _ he)
   ·unfold lB at hm hf
    rw [Around.frames_deeper hfs] at hm
    rw [hfs'] at hf
    rcases aal.mp hm with rfl | hm
    ·have:s.heap.get? s.heap.objs.size=some o:=e
     rw [aaI (aaD _)] at this;cases this
    ·exact hf hm
   ·rcases P.new a ha with h1 | h1
    ·exact .inl h1
    ·refine .inr ?_
     cases e:s.heap.get? a with
     | none=>rfl
     | some o=>rw [st a o e] at h1;cases h1
  cases hmm:m ⟨aF ps vs,H⟩ with
  | stuck=>trivial
  | ok fl q1 =>
   cases fl with
   | next =>
    intro R hR
    refine key R λs₁ I=> ?_
    refine bP λY9 y9=> ?_
    obtain ⟨ha',R',st,ab⟩:=start s₁ I
    refine y9 ?_
    haveI h1:=hm s.heap.objs.size _ _ _ _ ha' R'
    rw [hmm] at h1
    refine h1 _ _ λι' cf s' P hf=> ?_
    rw [show cf= .next from hf]
    exact hR ι' .none s' (back P st ab) rfl
   | ret v =>
    intro R hR
    refine key R λs₁ I=> ?_
    refine bP λY9 y9=> ?_
    obtain ⟨ha',R',st,ab⟩:=start s₁ I
    refine y9 ?_
    haveI h1:=hm s.heap.objs.size _ _ _ _ ha' R'
    rw [hmm] at h1
    refine h1 _ _ λι' cf s' P hf=> ?_
    obtain ⟨cv,rfl,hv⟩:=hf
    exact hR ι' cv s' (back P st ab) hv
  | exc c q1 =>
   intro R hR
   refine key R λs₁ I=> ?_
   refine bP λY9 y9=> ?_
   obtain ⟨ha',R',st,ab⟩:=start s₁ I
   refine y9 ?_
   haveI h1:=hm s.heap.objs.size _ _ _ _ ha' R'
   rw [hmm] at h1
   refine h1 _ _ λι' ev s' x=> ?_
   exact x.leave (A:=A) (Around.frames_deeper hfs) hfs st ab rfl λs'' y=>hR ι' ev s'' y
 ·rw [if_neg hlen];trivial
end
theorem HZ {d k0 k:Nat} (h:d+3*k<=800) (q:k0<k):d+1+3*k0<=800:=by
 rw [Nat.add_assoc];exact aam (Nat.add_le_add_left (aam (Nat.le_of_eq (Nat.add_comm _ _)) (aam (Nat.add_le_add_left (show 1<=3 by decide) _) (Nat.mul_le_mul_left 3 (Nat.succ_le_of_lt q)))) d) h
theorem IS {d k0 k:Nat} (h:d+50*k<=9000) (q:k0<k):d+(1+3*0)+50*k0<=9000:=by
 rw [Nat.add_assoc];exact aam (Nat.add_le_add_left (aam (Nat.le_of_eq (Nat.add_comm _ _)) (aam (Nat.add_le_add_left (show 1<=50 by decide) _) (Nat.mul_le_mul_left 50 (Nat.succ_le_of_lt q)))) d) h
section
variable {hq:Bool} {k:Nat} {env:Env} {A:Around} {ι ι':List Addr} {q q':S} {s s':Shared} {H H':Hp} {h:Heap}
noncomputable def oY (c:String) (F:Fc) (vs:List V):Cm V:=λq=>match F (.inst c q.H.length::vs) (q.H++[.flds []]) with
 | .ok .none H'=> .ok (.inst c q.H.length) ⟨q.l,H'⟩
 | .ok _ _=> .stuck
 | .exc c' H'=> .exc c' ⟨q.l,H'⟩
 | .stuck=> .stuck
theorem aT.none_of {cv:Value} (x:aT ι h .none cv):cv= .none:=x
theorem tY.frames {A':Around} (e:A'.frames=A.frames) (x:tY A' ι s ι' H' s'):tY A ι s ι' H' s' :=
 ⟨x.pre,x.st,by rw [<- e];exact x.fs,by haveI:=x.kp;unfold lB at *;rw [<- e];exact this,x.new,x.gens,x.os⟩
theorem pi.frames {A':Around} {c:String} {ev:Value} (e:A'.frames=A.frames) (x:pi A' ι s c ι' H' s' ev):pi A ι s c ι' H' s' ev :=
 ⟨x.pre,by haveI:=x.ex;unfold lB at *;rw [<- e];exact this,x.size,x.up,x.new,x.gens,x.os⟩
theorem HO (C:bJ G) {c:String} {a fI:Addr} {F:Fc} {k0:Nat} (hc:G.cls c=some a) (hm:makesIn G.K a=true) (hi:findIn G.K (.ref a) "__init__" = some (some (.ref fI))) (hf:typeIn G.K (.ref fI)=some (.type "function"))
  (hF:bW hq k0 fI F) (hk:k0<k) (ha:lg hq k A env) (R:cJ A env ι q s) {vs:List V} {cvs:List Value} (hv:aX ι s.heap vs cvs) :
  bg A env ι s (oY c F vs q) (aT) (λQ E s=>codeAny G.M A (.call (.ref a) ⟨cvs,[]⟩) (AD Q E) s):=by
 haveI X:=C.X.keeps R.st.keep
 have st:s.heap.StaysIn ((s.heap.push emptyDict).push (instObj a s.heap.objs.size)):=λb o e=>aah _ (aah _ e)
 have nw:s.heap.get? s.heap.objs.size=none:=aaI (aaD _)
 have gd:((s.heap.push emptyDict).push (instObj a s.heap.objs.size)).get? s.heap.objs.size=some emptyDict:=by heap_get
 have gi:((s.heap.push emptyDict).push (instObj a s.heap.objs.size)).get? (s.heap.objs.size+1)=some (instObj a s.heap.objs.size):=by heap_get
 have P1:bh A env ι s (ι++[s.heap.objs.size]) { q with H:=q.H++[.flds []] } { s with heap:=(s.heap.push emptyDict).push (instObj a s.heap.objs.size),toks:=s.toks } :=
  bh.alloc R st nw ⟨[],0,gd,rfl⟩
 have vi:∀ {ι' h'},(ι++[s.heap.objs.size])<+:ι'->oG ((s.heap.push emptyDict).push (instObj a s.heap.objs.size)) h'->aT ι' h' (.inst c q.H.length) (.ref (s.heap.objs.size+1)):=λ{ι' h'} hp him =>
  aT.mono (v:= .inst c q.H.length) hp him ⟨s.heap.objs.size,s.heap.objs.size+1,a,_,by rw [<- R.st.len];simp,hc,rfl,gi,rfl,rfl,rfl⟩
 have hu:(A.under (.builtin "type.__call__" ⟨.ref a::cvs,[]⟩)).frames=A.frames:=rfl
 have hr:=hF (A.under (.builtin "type.__call__" ⟨.ref a::cvs,[]⟩)) (ι++[s.heap.objs.size]) (q.H++[.flds []]) { s with heap:=(s.heap.push emptyDict).push (instObj a s.heap.objs.size),toks:=s.toks } (.inst c q.H.length::vs) (.ref (s.heap.objs.size+1)::cvs)
  ⟨ha.hd,HZ ha.depth hk,IS ha.units hk⟩ (let ⟨fenv,rest,h1,_⟩:=ha.fr;⟨_,h1⟩) P1.rel.st P1.rel.fs P1.rel.gens P1.rel.os P1.rel.hn
  (pf (vi (aac _) (.refl _)) (hv.mono P1.pre (oG.of_stays st)))
 have core:∀R':Result->Shared->Prop,codeAny G.M (A.under (.builtin "type.__call__" ⟨.ref a::cvs,[]⟩)) (.call (.ref fI) ⟨.ref (s.heap.objs.size+1)::cvs,[]⟩) (InitBack (s.heap.objs.size+1) R') { s with heap:=(s.heap.push emptyDict).push (instObj a s.heap.objs.size),toks:=s.toks } ->
   codeAny G.M A (.call (.ref a) ⟨cvs,[]⟩) R' s:=λR' z=>by
  obtain ⟨hh,g,d,t,os⟩:=s
  exact make_core (makes_of X hm) (looks_findIn X hi) (λself=>bind_fn X self hf) (.inl rfl) z
 unfold oY
 cases hFv:F (.inst c q.H.length::vs) (q.H++[.flds []]) with
 | stuck=>trivial
 | ok v H' =>
  rw [hFv] at hr
  cases v<;>try trivial
  intro Q E hQ
  refine core _ (hr _ λι' cv s' c r=> ?_)
  rw [aT.none_of r]
  have P2:=bh.ofC P1.rel (tY.frames hu c)
  exact ⟨rfl,hQ ι' _ s' (P1.trans P2) (vi P2.pre (P1.rel.imm P2.kp))⟩
 | exc c' H' =>
  rw [hFv] at hr
  intro Q E hQ
  refine core _ (hr _ λι' ev s' x=> ?_)
  exact hQ ι' ev s' (P1.transX (dQ.ofC (q:={ q with H:=q.H++[.flds []] }) ha P1.rel (pi.frames hu x)))
theorem AW (C:bJ G) {x:String} {a fI:Addr} {F:Fc} {k0:Nat} {es:List Expr} {p pos:Pos} {m:Cm (List V)} (hx:env.kindOf (Str.ofString x)=some .globalImplicit)
  (hv:nsIn G.K mainGlobals (Str.ofString x)=some (some (.ref a))) (hkeep:keepIn G.K (.ref a)=true) (hd:(Str.ofString x==("__debug__" : Str))=false) (hc:G.cls x=some a) (hm:makesIn G.K a=true)
  (hi:findIn G.K (.ref a) "__init__" = some (some (.ref fI))) (hf:typeIn G.K (.ref fI)=some (.type "function")) (hF:bW hq k0 fI F) (hk:k0<k) (h1:C8 hq k env es m)
  (hp:(backTo pos (starEach es env)).any (·.1)=false) :
  Ev hq k env (.Call (.Name (Str.ofString x) p) es [] pos) (m.b λvs=>oY x F vs):=by
 intro A ι q s ha R
 refine (bg.b (T':=λvs Q E s₁=>G.K.In s₁.heap/\codeAny G.M A (.call (.ref a) ⟨vs,[]⟩) (AD Q E) s₁) (h1 pos A ι q s ha R) λa' q' ι' b s' _ P hv =>
  (HO C hc hm hi hf hF hk ha P.rel hv).imp λQ E z=>⟨C.X.keeps P.rel.st.keep,z⟩).imp λQ E y=> ?_
 show wpAny G.M A (do callWith pos (<- eval (.Name (Str.ofString x) p) env) [] (backTo pos (starEach es env)) []) Q E s
 refine wpAny_bind (cT C R hx hv hd ?_)
 exact callWith_of (P:=G.K.In) (by rw [hp];rfl) (keeps_K hkeep) (cK hp (wpAny_mono y (λvs s₁ z=>⟨z.1,wpAny_call z.2⟩) λ_ _ z=>z))
end
section
variable {hq:Bool} {k:Nat} {env:Env} {A:Around} {ι ι':List Addr} {q q':S} {s s':Shared} {H H':Hp} {h:Heap}
theorem iW {hs:List ExceptHandler} {x c:String} {m m':Cm Fl} (h1:xM k env hs x m) (h2:xM k env hs c m'):xM k env hs c (if c=x then m else m'):=by
 by_cases e:c=x
 ·subst e;rw [if_pos rfl];exact h1
 ·rw [if_neg e];exact h2
theorem uB {L:List (String×Addr)} {c:String} {a:Addr} (e:L.lookup c=some a):(c,a)∈L:=bk e
theorem iy {f:String} {L:List (String×Addr)} (hL:∀c,G.cls c=L.lookup c) (h:(L.all λp=>AZ G.K p.2 (Str.ofString f))=true):sW f:=λc a e =>
 (List.all_eq_true.mp h) (c,a) (uB ((hL c).symm.trans e))
theorem iz {f:String} {L:List (String×Addr)} (hL:∀c,G.cls c=L.lookup c) (h:(L.all λp=>FC G.K p.2 (Str.ofString f))=true):sX f:=λc a e =>
 (List.all_eq_true.mp h) (c,a) (uB ((hL c).symm.trans e))
end
theorem Js {α:Type} {l:List α} (h:l.length=1):∃a,l=[a]:=List.length_eq_one_iff.mp h
theorem EU {α:Type} {n:Nat} {l:List α} (h:l.length=n+1):∃a r,l=a::r/\r.length=n:=by
 cases l with
 | nil=>cases h
 | cons a r=>exact ⟨a,r,rfl,by simpa using h⟩
theorem Jt {α:Type} {l:List α} (h:l.length=2):∃a b,l=[a,b]:=by obtain ⟨a,r,rfl,h2⟩:=EU h;obtain ⟨b,rfl⟩:=Js h2;exact ⟨a,b,rfl⟩
theorem Ju {α:Type} {l:List α} (h:l.length=3):∃a b c,l=[a,b,c]:=by obtain ⟨a,r,rfl,h2⟩:=EU h;obtain ⟨b,c,rfl⟩:=Jt h2;exact ⟨a,b,c,rfl⟩
theorem Jv {α:Type} {l:List α} (h:l.length=4):∃a b c d,l=[a,b,c,d]:=by obtain ⟨a,r,rfl,h2⟩:=EU h;obtain ⟨b,c,d,rfl⟩:=Ju h2;exact ⟨a,b,c,d,rfl⟩
theorem Jw {α:Type} {l:List α} (h:l.length=5):∃a b c d e,l=[a,b,c,d,e]:=by obtain ⟨a,r,rfl,h2⟩:=EU h;obtain ⟨b,c,d,e,rfl⟩:=Jv h2;exact ⟨a,b,c,d,e,rfl⟩
theorem J3 {α:Type} {l:List α} (h:l.length=6):∃a b c d e f,l=[a,b,c,d,e,f]:=by obtain ⟨a,r,rfl,h2⟩:=EU h;obtain ⟨b,c,d,e,f,rfl⟩:=Jw h2;exact ⟨a,b,c,d,e,f,rfl⟩
theorem IL (C:bJ G) {f:Addr} {F:Fc} {k:Nat} (hF:bW true k f F) (hk:k<=100) {s₁:Shared} (hB:G.hB=s₁.heap) (hos:s₁.os=G.os) (hg:s₁.gens = #[]) (hval:∃H',F [.scr] []= .ok (.bool true) H')
  {R:Result->Shared->Prop} (hR:∀s',(∀b o,s₁.heap.get? b=some o->s'.heap.get? b=some o)->s'.os=s₁.os->s'.gens = #[]->R (.ok (.ret (.bool true))) s') :
  codeAny G.M callerA (.call (.ref f) ⟨[.ref G.sa],[]⟩) R s₁:=by
 obtain ⟨H',hv⟩:=hval
 haveI st:eX [] [] s₁.heap:=⟨by rw [hB];exact λ_ _ e=>e,rfl,List.nodup_nil,λa ha=>(nomatch ha),λi a o e=>by simp at e⟩
 haveI:=hF callerA [] [] s₁ [.scr] [.ref G.sa] ⟨λ_=>rfl,by show 301+3*k<=800;exact cU 0x320a003d00012dac0000064a0031 hk,aam (Nat.add_le_add_left (Nat.mul_le_mul_left 50 hk) 4) ∅⟩ ⟨[],rfl⟩ st (λenv he=>by cases he) hg hos (λ_ h=>by cases h) (pf rfl yW)
 rw [hv] at this
 refine this R λι' cv s' P r=> ?_
 rw [show cv= .bool true from r]
 exact hR s' (λb o e=>P.st.keep b o (by rw [hB];exact e)) (by rw [P.os,hos]) P.gens
set_option linter.unusedSimpArgs false
section
variable {α β:Type} {q q':S} {l:bw} {H:Hp}
theorem qv (m:Cm α) (f:α->Cm β) (q:S):(m.b f) q=match m q with | .ok a q'=>f a q' | .exc c q'=> .exc c q' | .stuck=> .stuck:=rfl
theorem Hy (a:α) (q:S):Cm.p a q= .ok a q:=rfl
theorem Hu (x:String) (l:bw) (H:Hp):af x ⟨l,H⟩=match l x with | some v=> .ok v ⟨l,H⟩ | none=> .stuck:=rfl
theorem Ak (x:String) (v:V) (l:bw) (H:Hp):a9 x v ⟨l,H⟩= .ok () ⟨upd l x v,H⟩:=rfl
theorem Fv (m m':Cm Fl) (q:S):aw m m' q=match m q with | .ok .next q'=>m' q' | .ok (.ret v) q'=> .ok (.ret v) q' | .exc c q'=> .exc c q' | .stuck=> .stuck:=by
 unfold aw Cm.b
 cases m q with
 | ok a q'=>cases a<;>rfl
 | exc c q'=>rfl
 | stuck=>rfl
theorem rC (F:Fc) (vs:List V) (l:bw) (H:Hp):br F vs ⟨l,H⟩=match F vs H with | .ok v H'=> .ok v ⟨l,H'⟩ | .exc c H'=> .exc c ⟨l,H'⟩ | .stuck=> .stuck:=rfl
theorem BC (c:String) (F:Fc) (vs:List V) (l:bw) (H:Hp):oY c F vs ⟨l,H⟩=match F (.inst c H.length::vs) (H++[.flds []]) with
 | .ok .none H'=> .ok (.inst c H.length) ⟨l,H'⟩ | .ok _ _=> .stuck | .exc c' H'=> .exc c' ⟨l,H'⟩ | .stuck=> .stuck:=rfl
theorem HA (m:Cm Fl) (sel:String->Cm Fl) (q:S):Az m sel q=match m q with | .ok f q'=> .ok f q' | .exc c q'=>(match sel c q' with | .ok f q''=> .ok f q'' | _=> .stuck) | .stuck=> .stuck:=rfl
theorem IG (ps:List String) (m:Cm Fl) (vs:List V) (H:Hp):gD ps m vs H=if vs.length=ps.length then (match m ⟨aF ps vs,H⟩ with
 | .ok (.ret v) q=> .ok v q.H | .ok .next q=> .ok .none q.H | .exc c q=> .exc c q.H | .stuck=> .stuck) else .stuck:=rfl
theorem uR (vs:List V) (l:bw) (H:Hp):dr vs ⟨l,H⟩=if vs.length<=1000000 then .ok (.ref H.length) ⟨l,H++[.list vs]⟩ else .stuck:=rfl
theorem Fs (f c:String) (i:Nat) (l:bw) (H:Hp):aC f (.inst c i) ⟨l,H⟩=match H[i]? with | some (.flds fs)=>(match fs.lookup f with | some v=> .ok v ⟨l,H⟩ | none=> .stuck) | _=> .stuck:=rfl
theorem DC (f c:String) (v:V) (i:Nat) (l:bw) (H:Hp):b0 f v (.inst c i) ⟨l,H⟩=match H[i]? with | some (.flds fs)=>if fs.length<100 then .ok () ⟨l,H.set i (.flds (vP f v fs))⟩ else .stuck | _=> .stuck:=rfl
theorem Fu (c0 f c:String) (i:Nat) (l:bw) (H:Hp):dI c0 f (.inst c i) ⟨l,H⟩=if c=c0 then (match H[i]? with | some (.flds fs)=>(match fs.lookup f with | some _=> .stuck | none=> .ok () ⟨l,H⟩) | _=> .stuck) else .stuck:=rfl
theorem yt (i:Nat) (l:bw) (H:Hp):gm (.ref i) ⟨l,H⟩=match H[i]? with | some (.list _)=> .ok true ⟨l,H⟩ | some (.dict _)=> .ok false ⟨l,H⟩ | _=> .stuck:=rfl
theorem Hw (T:String) (v:V) (l:bw) (H:Hp):mG T v ⟨l,H⟩=match yT H v with | some t=> .ok (.bool (t==T||(t == "bool" && T == "int"))) ⟨l,H⟩ | none=> .stuck:=rfl
theorem rD (v:V) (l:bw) (H:Hp):d5 v ⟨l,H⟩=match ay v H with | some xs=> .ok ⟨xs,λH=>ay v H=some xs⟩ ⟨l,H⟩ | none=> .stuck:=rfl
theorem qu {i:Nat} {xs:List V} (v:V) (l:bw) (H:Hp) (h:H[i]? = some (.list xs)) (hl:xs.length<1000000):ju (.ref i) v ⟨l,H⟩= .ok .none ⟨l,H.set i (.list (xs++[v]))⟩:=by
 unfold ju;dsimp only;rw [h];exact if_pos hl
theorem qw {o:V} {xs:List V} (l:bw) (H:Hp) (h:ay o H=some xs) (hl:xs.length<=1000000):gE [o] ⟨l,H⟩= .ok (.ref H.length) ⟨l,H++[.list xs]⟩:=by
 unfold gE;dsimp only;rw [h];exact if_pos hl
theorem lf (l:bw) (x:String) (v:V):upd l x v x=some v:=if_pos rfl
theorem ig (l:bw) {x y:String} (v:V) (h:y≠x):upd l x v y=l y:=if_neg h
end
section
variable {g:Hp->Prop} {bd:V->Cm Unit} {body:Cm Fl}
open Classical in
theorem wZ (x:V) (r:List V) (q:S):dS g bd body (x::r) q=match ((bd x).b λ_=>body) q with
  | .ok .next q'=>if g q'.H then dS g bd body r q' else .stuck
  | .ok (.ret v) q'=> .ok (.ret v) q'
  | .exc c q'=> .exc c q'
  | .stuck=> .stuck:=by
 show ((bd x).b λ_=>body.b (AA g (dS g bd body r))) q=_
 simp only [qv]
 cases bd x q with
 | stuck=>rfl
 | exc c q'=>rfl
 | ok u q' =>
  dsimp only
  cases body q' with
  | stuck=>rfl
  | exc c q'=>rfl
  | ok f q'=>cases f<;>rfl
theorem cg {x:V} {r:List V} {q q':S} (h:((bd x).b λ_=>body) q= .ok .next q') (hg:g q'.H):dS g bd body (x::r) q=dS g bd body r q':=by rw [wZ,h];exact if_pos hg
theorem uh {x:V} {r:List V} {q q':S} {v:V} (h:((bd x).b λ_=>body) q= .ok (.ret v) q'):dS g bd body (x::r) q= .ok (.ret v) q':=by rw [wZ,h]
theorem fU (I:List V->S->Prop) (step:∀x r q,I (x::r) q-> ∃q',((bd x).b λ_=>body) q= .ok .next q'/\g q'.H/\I r q'):∀xs q,I xs q-> ∃q',dS g bd body xs q= .ok .next q'/\I [] q'
 | [],q,h=>⟨q,rfl,h⟩
 | x::r,q,h=>by
  obtain ⟨q',h1,h2,h3⟩:=step x r q h
  rw [cg h1 h2]
  exact fU I step r q' h3
end
theorem lM (i:Int):SeqAt.shaped (.int i)=true:=by simp [SeqAt.shaped,PyData.canLay0,PyData.depth]
def Sh (n:Nat) (d:PyData):Prop:=d.canLay0=true/\d.depth<=n
theorem u8 (n:Nat) (i:Int):Sh n (.int i):=⟨by simp [PyData.canLay0],by simp [PyData.depth]⟩
theorem BF {n:Nat}:∀ {ds:List PyData},(∀d∈ds,Sh n d)->PyData.canLayAll0 ds=true/\PyData.depthAll ds<=n
 | [],_=>⟨by simp [PyData.canLayAll0],by simp [PyData.depthAll]⟩
 | d::ds,h=>by
  obtain ⟨h1,h2⟩:=BF (n:=n) λe he=>h e (.tail _ he)
  obtain ⟨h3,h4⟩:=h d (.head _)
  exact ⟨by simp [PyData.canLayAll0,h1,h3],by simp only [PyData.depthAll];exact Nat.max_le.mpr ⟨h4,h2⟩⟩
theorem yF {n:Nat} {ds:List PyData} (h:∀d∈ds,Sh n d):Sh (n+1) (.list ds):=by
 obtain ⟨h1,h2⟩:=BF h
 exact ⟨by simpa [PyData.canLay0] using h1,by simp [PyData.depth];exact h2⟩
theorem vc {n:Nat} {ds:List PyData} (h:∀d∈ds,Sh n d):Sh (n+1) (.tuple ds):=by
 obtain ⟨h1,h2⟩:=BF h
 exact ⟨by simpa [PyData.canLay0] using h1,by simp [PyData.depth];exact h2⟩
theorem Sh.shaped {n:Nat} {d:PyData} (h:Sh n d) (hn:n<=64):SeqAt.shaped d=true:=by
 unfold SeqAt.shaped;rw [h.1];haveI:=h.2;simp;exact cM 0x40a100101000040a0012 hn this
theorem uE {α β γ:Type} (f:β->Option γ) (g:α->β) (h:α->γ) (e:∀x,f (g x)=some (h x)):∀xs:List α,dX f (xs.map g)=some (xs.map h)
 | []=>rfl
 | x::xs=>by
  show ((f (g x)).bind λd=>(dX f (xs.map g)).map (d :: ·))=_
  rw [e x,uE f g h e xs];rfl
theorem qO (H:Hp) (i:Int):toD H 8 (.int i)=some (.int i):=rfl
theorem Ay (H:Hp) (i:Nat) {xs:List V} {ds:List PyData} (h:H[i]? = some (.list xs)) (hd:dX (toD H 7) xs=some ds):toD H 8 (.ref i)=some (.list ds):=by
 show (match H[i]? with | some (.list xs)=>(dX (toD H 7) xs).map PyData.list | _=>none)=_
 rw [h];dsimp only;rw [hd];rfl
theorem qP (H:Hp) (n:Nat) (xs:List Int):dX (toD H (n+1)) (xs.map V.int)=some (xs.map PyData.int):=uE (toD H (n+1)) V.int PyData.int (λ_=>rfl) xs
theorem yE (xs:List Int):Sh 1 (.list (xs.map PyData.int)):=yF λd hd=>by obtain ⟨i,_,rfl⟩:=aag.mp hd;exact u8 _ _
theorem pB {α:Type} [DecidableEq α] (f:α->PyData) (h:∀x y,PyData.eqv (f x) (f y)=decide (x=y)):∀xs ys:List α,PyData.eqvAll (xs.map f) (ys.map f)=decide (xs=ys)
 | [],[]=>rfl
 | [],y::ys=>rfl
 | x::xs,[]=>rfl
 | x::xs,y::ys=>by
  show (PyData.eqv (f x) (f y)&&PyData.eqvAll (xs.map f) (ys.map f))=_
  rw [h,pB f h xs ys,<- Bool.decide_and]
  exact decide_eq_decide.mpr (by rw [List.cons.injEq])
theorem nY (i j:Int):PyData.eqv (.int i) (.int j)=decide (i=j):=rfl
theorem nq (i j:Int) (q:S):ko (.int i) (.int j) q= .ok (decide (i=j)) q:=by
 unfold ko D4;rw [qO,qO,aaR,aaR,lM,lM];rfl
theorem n9 {i j:Nat} {xs ys:List Int} {q:S} (h1:q.H[i]? = some (.list (xs.map .int))) (h2:q.H[j]? = some (.list (ys.map .int))):ko (.ref i) (.ref j) q= .ok (decide (xs=ys)) q:=by
 haveI t1:toD q.H 8 (.ref i)=some (.list (xs.map PyData.int)):=Ay _ _ h1 (qP _ _ _)
 haveI t2:toD q.H 8 (.ref j)=some (.list (ys.map PyData.int)):=Ay _ _ h2 (qP _ _ _)
 unfold ko D4
 rw [t1,t2,aaR,aaR,(yE xs).shaped ∅,(yE ys).shaped ∅]
 show qT.ok (PyData.eqvAll _ _) q=_
 rw [pB PyData.int nY]
theorem og {i:Nat} {a:Int} {xs:List Int} {q:S} (h1:q.H[i]? = some (.list (xs.map .int))):un (.int a) (.ref i) q= .ok (decide (a∈xs)) q:=by
 haveI:∀xs:List Int,((xs.map PyData.int).any λy=>PyData.eqv y (.int a))=decide (a∈xs):=λxs=>by
  induction xs with
  | nil=>simp
  | cons x xs ih=>simp only [aas,List.any_cons,ih,nY,aal,Bool.decide_or,@eq_comm _ x a]
 unfold un I8;dsimp only;rw [h1];dsimp only
 rw [qO,qP,aaR,aaR,lM,(yE xs).shaped ∅,this];rfl
theorem aY (H:Hp) (o:O):(H++[o])[H.length]? = some o:=by simp
theorem xh (H:Hp) (o o':O):(H++[o]).set H.length o'=H++[o']:=by simp
theorem aG {H H':Hp} (p:H<+:H') {i:Nat} {o:O} (e:H[i]? = some o):H'[i]? = some o:=getElem?_prefix p e
theorem kz (b:Int) (q:S) (h : -1000000<b/\b<1000000):fE [.int b] q= .ok ⟨bN 0 b.toNat,λ_=>True⟩ q:=by
 unfold fE;dsimp only;rw [if_pos h];rfl
theorem bj (a b:Int) (hb:0<b):0<=a.fmod b/\a.fmod b<b:=⟨Int.fmod_nonneg_of_pos a hb,Int.fmod_lt_of_pos a hb⟩
section
variable {m m':Cm Fl} {q:S} {P P':S->Prop} {R:V->Hp->Prop}
theorem ai {q':S} {r:qT S Fl} (h:m q= .ok .next q') (k:m' q'=r):aw m m' q=r:=by rw [Fv,h];exact k
end
section
variable {m:Cm Fl} {ps:List String} {vs:List V} {H:Hp} {q:S} {v:V} {c:String}
theorem n7 (hl:vs.length=ps.length) (h:m ⟨aF ps vs,H⟩= .ok .next q):gD ps m vs H= .ok .none q.H:=by rw [IG,if_pos hl,h]
theorem aU (hl:vs.length=ps.length) (h:m ⟨aF ps vs,H⟩= .ok (.ret v) q):gD ps m vs H= .ok v q.H:=by rw [IG,if_pos hl,h]
theorem ce (hl:vs.length=ps.length) (h:m ⟨aF ps vs,H⟩= .exc c q):gD ps m vs H= .exc c q.H:=by rw [IG,if_pos hl,h]
theorem bB {m m':Cm Fl} {q q':S} {v:V} (h:m q= .ok (.ret v) q'):aw m m' q= .ok (.ret v) q':=by rw [Fv,h]
theorem bY {m m':Cm Fl} {q q':S} {c:String} (h:m q= .exc c q'):aw m m' q= .exc c q':=by rw [Fv,h]
end
section
variable {prog:Program} {w:World} {A:Around} {E:Value->Shared->Prop} {h:Heap} {g:Array GenState} {d:Drawn} {t:Nat} {os:OsState} {a C:Addr} {o:Obj} {K:Frag}
noncomputable def vK (K:Frag) (C:Addr):Bool:=(findIn K (.ref C) "__getattribute__" == some (some (.builtin "BaseException.__getattribute__")))&&(findIn K (.ref C) "__getattr__" == some none)&&(findIn K (.ref C) "__class__" == some (some (.builtin "object.__class__"))) &&
 (subIn K (.ref C) (.type "BaseException")==some true)&&(subIn K (.ref C) (.type "object")==some true)
theorem F6 {R:Result->Shared->Prop} (X:K.In h) (hx:h.get? a=some o) (hc:o.cls= .ref C) (hs:subIn K (.ref C) (.type "object")=some true) (hq:R (.ok (.ret (.ref C))) ⟨h,g,d,t,os⟩) :
  codeAny (model prog w) A (.call (.builtin "getset_descriptor.__get__") ⟨[.builtin "object.__class__",.ref a,.ref C],[]⟩) R ⟨h,g,d,t,os⟩:=by
 have LT:Looks (model prog w) h (typeOf (.ref a)) (.ref C):=by rw [<- hc];exact (Looks.ld hx).andThen .now
 haveI hT5:(⟨h,g,d,t,os⟩:Shared).TypeIs (.builtin "object.__class__") "getset_descriptor" := F.typeOf_object_class
 haveI LS:Looks (model prog w) h (isSubtype (.ref C) (.type (".".intercalate ("object.__class__".cutAt '.').dropLast))) true:=by rw [F.owner_object_class];exact looks_subIn X hs
 refine codeAny_call_builtin F.slot_gs_get.plain F.entry_gs_get (F.slot_gs_get.check _ _ _ _ _ _ _ _ hT5 (F.args_gs_get _ _ _) ?_)
 repeat (any_goals (first | assumption | lk | wp_step))
 refine ⟨Code.quiet_builtin _ ∅,codeAny_builtin F.entry_object_class ?_⟩
 repeat (any_goals (first | assumption | lk | wp_step))
theorem BQ {tk:Tok} {Q:PySem.Fin->Shared->Prop} (X:K.In h) (hx:h.get? a=some o) (hc:o.cls= .ref C) (h3:findIn K (.ref C) "__class__" = some (some (.builtin "object.__class__"))) (hs:subIn K (.ref C) (.type "object")=some true)
  (hq:Q (.done (.ret (.ref C))) ⟨h,g,d,t,os⟩):wpAny (model prog w) A (Builtin.«object.__getattribute__» ⟨[.ref a,.str "__class__" tk],[]⟩) Q E ⟨h,g,d,t,os⟩:=by
 haveI LT:Looks (model prog w) h (typeOf (.ref a)) (.ref C):=by rw [<- hc];exact (Looks.ld hx).andThen .now
 haveI L3:Looks (model prog w) h (typeLookup (.ref C) "__class__") (some (.builtin "object.__class__")):=looks_findIn X h3
 haveI hT5:(⟨h,g,d,t,os⟩:Shared).TypeIs (.builtin "object.__class__") "getset_descriptor" := F.typeOf_object_class
 have f5:=F.typeOf_object_class
 haveI f6:=F.slot_gs_get.lookup
 haveI f7:=F.slot_gs_set.lookup
 repeat (any_goals (first | assumption | with_reducible refine Looks.at LT ?_ | with_reducible refine Looks.at L3 ?_ | wp_step))
 refine F6 X hx hc hs ?_
 repeat (any_goals (first | assumption | wp_step))
theorem BP {M:Model} {nameV:Value} {Q:Unit->Shared->Prop} (X:K.In h) (hx:h.get? a=some o) (hc:o.cls= .ref C) (hs:subIn K (.ref C) (.type "BaseException")=some true) (hq:Q () ⟨h,g,d,t,os⟩) :
  wpAny M A (checkBuiltinCall "BaseException.__getattribute__" ⟨[.ref a,nameV],[]⟩) Q E ⟨h,g,d,t,os⟩:=by
 haveI hk:builtinKind "BaseException.__getattribute__" = some .slot:=by decide +kernel
 haveI hsplit:splitId "BaseException.__getattribute__" = some ("BaseException", "__getattribute__"):=by decide +kernel
 haveI LT:Looks M h (typeOf (.ref a)) (.ref C):=by rw [<- hc];exact (Looks.ld hx).andThen .now
 haveI LS:Looks M h (isSubtype (.ref C) (.type "BaseException")) true:=looks_subIn X hs
 haveI LI:Looks M h (isInstance (.ref a) (.type "BaseException")) true:=LT.andThen LS
 haveI ha:=F.args_bexc_ga (.ref a) nameV
 simp only [checkBuiltinCall,hk,hsplit]
 refine wpAny_bind (LI.at ?_)
 repeat (first | exact hq | wp_step)
theorem DV {tk:Tok} {R:Result->Shared->Prop} (X:K.In h) (hx:h.get? a=some o) (hc:o.cls= .ref C) (hz:vK K C=true) (hq:R (.ok (.ret (.ref C))) ⟨h,g,d,t,os⟩) :
  codeAny (model prog w) A (.call (.builtin "BaseException.__getattribute__") ⟨[.ref a,.str "__class__" tk],[]⟩) R ⟨h,g,d,t,os⟩:=by
 unfold vK at hz
 simp only [aa9,beq_iff_eq] at hz
 refine bP λY9 y9=> ?_
 obtain ⟨⟨⟨⟨z1,z2⟩,z3⟩,z4⟩,z5⟩:=hz
 refine y9 ?_
 exact codeAny_call_builtin F.excAttr_ValueError.ga.plain F.entry_bexc_ga (BP X hx hc z4 (BQ X hx hc z3 z5 hq))
theorem Hc {tk:Tok} {Q:Value->Shared->Prop} (X:K.In h) (hx:h.get? a=some o) (hc:o.cls= .ref C) (hz:vK K C=true) (hq:Q (.ref C) ⟨h,g,d,t,os⟩) :
  wpAny (model prog w) A (getAttrBy (.ref a) (.str "__class__" tk) false) Q E ⟨h,g,d,t,os⟩:=by
 haveI hz':=hz
 unfold vK at hz'
 simp only [aa9,beq_iff_eq] at hz'
 refine bP λY9 y9=> ?_
 obtain ⟨⟨⟨⟨z1,z2⟩,z3⟩,z4⟩,z5⟩:=hz'
 refine y9 ?_
 haveI LT:Looks (model prog w) h (typeOf (.ref a)) (.ref C):=by rw [<- hc];exact (Looks.ld hx).andThen .now
 haveI L1:Looks (model prog w) h (typeLookup (.ref C) "__getattribute__") (some (.builtin "BaseException.__getattribute__")):=looks_findIn X z1
 haveI L2:Looks (model prog w) h (typeLookup (.ref C) "__getattr__") none:=looks_findIn X z2
 haveI f3:=F.excAttr_ValueError.ga.bind (.ref a)
 repeat (any_goals (first | assumption | with_reducible refine Looks.at LT ?_ | with_reducible refine Looks.at L1 ?_ | with_reducible refine Looks.at L2 ?_ | wp_step))
 refine DV X hx hc hz ?_
 repeat (any_goals (first | assumption | wp_step))
theorem DU {s:Shared} {Q:Option Value->Shared->Prop} (X:K.In s.heap) (hx:s.heap.get? a=some o) (hc:o.cls= .ref C) (hz:vK K C=true) (hq:Q (some (.ref C)) { s with toks:=s.toks+1 }):wpAny (model prog w) A (getAttr? (.ref a) "__class__") Q E s:=by
 obtain ⟨h,g,d,t,os⟩:=s
 unfold getAttr? getAttrBy?
 repeat (any_goals (first | assumption | with_reducible apply Hc X hx hc hz | wp_step))
theorem ER (hz:vK K C=true) (hcl:∃c d cd sl,K.lookup C=some ⟨c,d,.cls cd,sl⟩):KitX K (.ref a) (.ref C) (λh=> ∃o,h.get? a=some o/\o.cls= .ref C) where
 ty:=λM h X p=>by obtain ⟨o,h1,h2⟩:=p;rw [<- h2];exact (Looks.ld h1).andThen .now
 it:=λ_ _ X _=>by
  obtain ⟨c,d,cd,sl,ho⟩:=hcl
  intro A' Q' E' s' k q
  unfold isType loadHead
  exact wpAny_bind (wpAny_loadPart (k _ _ (X _ _ ho)) (wpAny_pure q))
 ne:=λh tp dd its n sl X htp=>by
  obtain ⟨c,d,cd,sl',ho⟩:=hcl
  refine Bool.eq_false_iff.mpr λq=> ?_
  haveI e:C=tp:=Value.ref.inj (beq_iff_eq.mp q)
  subst e
  have z:=(X _ _ ho).symm.trans htp
  cases z
 ca:=λX p k=>by obtain ⟨o,h1,h2⟩:=p;exact DU X h1 h2 hz k
end
noncomputable def pI (L:List (String×Bool)) (v:V):Cm V:=λq=>match v with
 | .exc c=>(match L.lookup c with | some b=> .ok (.bool b) q | none=> .stuck)
 | _=> .stuck
noncomputable def jY (K:Frag) (X:List (String×Addr)) (cv:Value) (L:List (String×Bool)):Bool:=L.all λp=>match X.lookup p.1 with
 | some C=>(kitOne K (.ref C) cv==some p.2)&&vK K C&&(match K.lookup C with | some ⟨_,_,.cls _,_⟩=>true | _=>false)
 | none=>false
section
variable {hq:Bool} {k:Nat} {env:Env} {A:Around} {ι ι':List Addr} {q q':S} {s s':Shared} {H H':Hp} {h:Heap}
theorem Jd (C:bJ G) {X:List (String×Addr)} (hX:∀c,G.xcl c=X.lookup c) {L:List (String×Bool)} {tv:Value} (hT:jY G.K X tv L=true) {v:V} {cv:Value} (R:cJ A env ι q s) (hv:aT ι s.heap v cv) :
  bg A env ι s (pI L v q) (aT) (mJ A (call (.builtin "isinstance") [cv,tv])):=by
 unfold pI
 split
 ·rename_i c
  split
  ·rename_i b e
   refine bP λY9 y9=> ?_
   obtain ⟨x,D,o,h1,rfl,h2,h3,vs,h4⟩:=hv
   haveI hm:=(List.all_eq_true.mp hT) (c,b) (bk e)
   rw [hX] at h1
   simp only [h1,aa9,beq_iff_eq] at hm
   obtain ⟨⟨m1,m2⟩,m3⟩:=hm
   refine y9 ?_
   haveI hcl:∃c d cd sl,G.K.lookup D=some ⟨c,d,.cls cd,sl⟩:=by
    split at m3
    ·rename_i a1 a2 a3 a4 hl;exact ⟨_,_,_,_,hl⟩
    ·cases m3
   exact λQ E hQ=>kia_one (ER (a:=x) m2 hcl) (C.X.keeps R.st.keep) ⟨o,h2,h3⟩ m1 (by intro q;cases q) λtk=>hQ ι _ _ (bh.toks R tk) (vI _)
  ·trivial
 ·trivial
theorem lW (C:bJ G) {X:List (String×Addr)} (hX:∀c,G.xcl c=X.lookup c) {L:List (String×Bool)} {tv:Value} {e t:Expr} {p pos:Pos} {m:Cm V} (hT:jY G.K X tv L=true)
  (hx:env.kindOf (Str.ofString "isinstance")=some .globalImplicit) (hv:nsIn G.K mainGlobals (Str.ofString "isinstance")=some none)
  (hld:∀A ι q s Q E,cJ A env ι q s->Q tv s->wpAny G.M A (eval t env) Q E s) (h1:Ev hq k env e m) (he:starEach [e,t] env=(false,eval e env)::starEach [t] env) (he2:starEach [t] env=(false,eval t env)::starEach [] env)
  (hp:(backTo pos (starEach [e,t] env)).any (·.1)=false) :
  Ev hq k env (.Call (.Name (Str.ofString "isinstance") p) [e,t] [] pos) (m.b λv=>pI L v):=by
 intro A ι q s ha R
 refine (bg.b (T':=λv Q E s₁=>wpAny G.M A (eval t env) (λw s₂=>wpAny G.M A (call (.builtin "isinstance") [v,w]) Q E s₂) E s₁) (h1 A ι q s ha R) λa q' ι' b s' _ P hv' =>
  (Jd C hX hT P.rel hv').imp λQ E z=>hld A ι' q' s' _ _ P.rel z).imp λQ E y=> ?_
 show wpAny G.M A (do callWith pos (<- eval (.Name (Str.ofString "isinstance") p) env) [] (backTo pos (starEach [e,t] env)) []) Q E s
 refine wpAny_bind (ff C R hx hv (v:= .builtin "isinstance") ∅ ∅ ∅ ?_)
 refine Calls.callWith_builtin hp (cK hp (wpAny_items_cons (wpAny_mono y (λv s₁ z=>wpAny_items_cons (wpAny_mono z (λw s₂ u=>wpAny_items_nil u) λ_ _ u=>u) he2) λ_ _ z=>z) he))
end
noncomputable def fx (caps:List String) (l:bw):bw:=λx=>if x∈caps then l x else none
open Classical in
noncomputable def sk {α:Type} (l:bw):qT S α->qT Hp α
 | .ok a q=>if q.l=l then .ok a q.H else .stuck
 | _=> .stuck
noncomputable def bS (bd:V->Cm Unit) (tst:Cm Bool) (elt:Cm V) (lc:bw) (v:V) (H:Hp):qT Hp (Option V):=match bd v ⟨lc,H⟩ with
 | .ok _ q1=>(match sk q1.l (tst q1) with
  | .ok true H2=>(match sk q1.l (elt ⟨q1.l,H2⟩) with | .ok y H3=> .ok (some y) H3 | _=> .stuck)
  | .ok false H2=> .ok none H2
  | _=> .stuck)
 | _=> .stuck
open Classical in
noncomputable def gj (g:Hp->Prop) (bd:V->Cm Unit) (tst:Cm Bool) (elt:Cm V) (lc:bw):List V->Hp->qT Hp (List V)
 | [],H=> .ok [] H
 | v::r,H=>match bS bd tst elt lc v H with
  | .ok o H'=>if g H' then (match gj g bd tst elt lc r H' with | .ok ys H''=> .ok (o.toList++ys) H'' | _=> .stuck) else .stuck
  | _=> .stuck
noncomputable def db (caps:List String) (mi:Cm It) (bd:V->Cm Unit) (tst:Cm Bool) (elt:Cm V):Cm V:=mi.b λit=>λq =>
 if it.xs.length<=1000000 then (match gj it.g bd tst elt (fx caps q.l) it.xs q.H with
  | .ok ys H'=> .ok (.ref H'.length) ⟨q.l,H'++[.list ys]⟩
  | _=> .stuck) else .stuck
theorem uv {α:Type} {l:bw} {r:qT S α} {a:α} {H:Hp} (e:sk l r= .ok a H):r= .ok a ⟨l,H⟩:=by
 cases r with
 | ok b q =>
  unfold sk at e;dsimp only at e
  split at e
  ·rename_i h
   cases e
   obtain ⟨ql,qH⟩:=q
   dsimp only at h
   subst h
   rfl
  ·cases e
 | _=>cases e
theorem uu {α:Type} {l:bw} {a:α} {H:Hp}:sk l (.ok a ⟨l,H⟩)= .ok a H:=by unfold sk;exact if_pos rfl
theorem zl {bd:V->Cm Unit} {tst:Cm Bool} {elt:Cm V} {lc:bw} {v:V} {H H':Hp} {o:Option V} (e:bS bd tst elt lc v H= .ok o H') :
  ∃u q1,bd v ⟨lc,H⟩= .ok u q1/\((tst q1= .ok false ⟨q1.l,H'⟩/\o=none)\/ ∃H2 y,tst q1= .ok true ⟨q1.l,H2⟩/\elt ⟨q1.l,H2⟩= .ok y ⟨q1.l,H'⟩/\o=some y):=by
 refine xf λX' kX=> ?_
 unfold bS at e
 cases h1:bd v ⟨lc,H⟩ with
 | ok u q1 =>
  rw [h1] at e;dsimp only at e
  cases h2:sk q1.l (tst q1) with
  | ok b H2 =>
   rw [h2] at e
   cases b with
   | true =>
    dsimp only at e
    cases h3:sk q1.l (elt ⟨q1.l,H2⟩) with
    | ok y H3 =>
     rw [h3] at e
     cases e
     exact kX ⟨u,q1,h1,.inr ⟨H2,y,uv h2,uv h3,rfl⟩⟩
    | _=>rw [h3] at e;cases e
   | false =>
    cases e
    exact kX ⟨u,q1,h1,.inl ⟨uv h2,rfl⟩⟩
  | _=>rw [h2] at e;cases e
 | _=>rw [h1] at e;cases e
open Classical in
theorem tZ {g:Hp->Prop} {bd:V->Cm Unit} {tst:Cm Bool} {elt:Cm V} {lc:bw} (v:V) (r:List V) (H:Hp):gj g bd tst elt lc (v::r) H=match bS bd tst elt lc v H with
  | .ok o H'=>if g H' then (match gj g bd tst elt lc r H' with | .ok ys H''=> .ok (o.toList++ys) H'' | _=> .stuck) else .stuck
  | _=> .stuck:=rfl
theorem Em {g:Hp->Prop} {bd:V->Cm Unit} {tst:Cm Bool} {elt:Cm V} {lc:bw} {v:V} {r:List V} {H Hf:Hp} {ys:List V} (e:gj g bd tst elt lc (v::r) H= .ok ys Hf) :
  ∃o H' zs,A4 (bS bd tst elt lc v H= .ok o H') (g H') (gj g bd tst elt lc r H'= .ok zs Hf) (ys=o.toList++zs):=by
 refine xf λX' kX=> ?_
 rw [tZ] at e
 cases h1:bS bd tst elt lc v H with
 | ok o H' =>
  rw [h1] at e;dsimp only at e
  by_cases hg:g H'
  ·rw [if_pos hg] at e
   cases h2:gj g bd tst elt lc r H' with
   | ok zs H'' =>
    rw [h2] at e
    cases e
    exact kX ⟨o,H',zs,h1,hg,h2,rfl⟩
   | _=>rw [h2] at e;cases e
  ·rw [if_neg hg] at e;cases e
 | _=>rw [h1] at e;cases e
noncomputable def kl (scope:Scope) (env:Env):List (Str×Addr):=scope.names.foldl (λcs p=>if p.2 == .free then (p.1,(env.cells.lookup p.1).getD 0)::cs else cs) []
noncomputable def zG (scope:Scope):List Str:=(scope.names.filter λp=>p.2 == .free).map (·.1)
noncomputable def Iq:Option NameKind->Bool
 | some .cell=>true
 | some .free=>true
 | _=>false
theorem zP {k:Option NameKind} (h:Iq k=true):k=some .cell\/k=some .free:=by
 cases k with
 | none=>cases h
 | some k =>
  cases k with
  | cell=>exact .inl rfl
  | free=>exact .inr rfl
  | _=>cases h
noncomputable def B2 (scope:Scope) (env:Env) (caps:List String):Bool :=
 (scope.kind == .function)&&(scope.names.all λp=>p.2 != .cell)&&(scope.names.all λp=>p.2 != .local||scope.names.lookup p.1==some .local) &&
 (scope.names.all λp=>p.2 != .free||(env.cells.lookup p.1).isSome)&&decide (zG scope).Nodup&&((zG scope).all λn=>caps.any λx=>n==Str.ofString x) &&
 (caps.all λx=>(zG scope).contains (Str.ofString x))&&(caps.all λx=>Iq ((relabel scope env).names.lookup (Str.ofString x)))&&(caps.all λx=>Iq (env.kindOf (Str.ofString x)))
structure gn (env:Env) (scope:Scope) (cl:List (Str×Addr)) (caps:List String):Prop where
 kind:scope.kind= .function
 cell:∀y∈scope.names,y.2≠ .cell
 names:∀x∈scope.names,x.2= .local->scope.names.lookup x.1=some .local
 at':∀p∈cl,env.cells.lookup p.1=some p.2
 nd:(cl.map (·.1)).Nodup
 all:∀p∈cl,∃x∈caps,p.1=Str.ofString x
 cap:∀x∈caps,Str.ofString x∈cl.map (·.1)
 kc:∀x∈caps,(relabel scope env).names.lookup (Str.ofString x)=some .cell\/(relabel scope env).names.lookup (Str.ofString x)=some .free
 ke:∀x∈caps,env.kindOf (Str.ofString x)=some .cell\/env.kindOf (Str.ofString x)=some .free
theorem zi (env:Env):∀(l:List (Str×NameKind)) (acc:List (Str×Addr)),
  l.foldl (λcs p=>if p.2 == .free then (p.1,(env.cells.lookup p.1).getD 0)::cs else cs) acc=((l.filter λp=>p.2 == .free).map λp=>(p.1,(env.cells.lookup p.1).getD 0)).reverse++acc
 | [],acc=>rfl
 | p::r,acc=>by
  rw [List.foldl_cons,zi env r]
  cases h:p.2 == .free with
  | true=>rw [aaO (by exact h)];simp
  | false=>rw [aaP (by rw [h];simp)];simp
theorem zh (scope:Scope) (env:Env):kl scope env=((scope.names.filter λp=>p.2 == .free).map λp=>(p.1,(env.cells.lookup p.1).getD 0)).reverse:=by
 unfold kl;rw [zi];simp
theorem qY (scope:Scope) (env:Env):(kl scope env).map (·.1)=(zG scope).reverse:=by
 rw [zh,List.map_reverse,List.map_map];rfl
theorem gn.of {env:Env} {scope:Scope} {caps:List String} (h:B2 scope env caps=true):gn env scope (kl scope env) caps:=by
 unfold B2 at h
 simp only [aa9] at h
 refine bP λY9 y9=> ?_
 obtain ⟨⟨⟨⟨⟨⟨⟨⟨h1,h2⟩,h3⟩,h4⟩,h5⟩,h6⟩,h7⟩,h8⟩,h9⟩:=h
 refine y9 ?_
 rw [List.all_eq_true] at h2 h3 h4 h6 h7 h8 h9
 refine ⟨beq_iff_eq.mp h1,λy hy=>by simpa using h2 y hy,λx hx e=> ?_,λp hp=> ?_,?_,λp hp=> ?_,λx hx=> ?_,λx hx=>zP (h8 x hx),λx hx=>zP (h9 x hx)⟩
 ·haveI:=h3 x hx
  rw [e] at this
  simpa using this
 ·rw [zh,aax,aag] at hp
  refine bP λY9 y9=> ?_
  obtain ⟨p',hp',rfl⟩:=hp
  obtain ⟨m1,m2⟩:=aaF.mp hp'
  haveI:=h4 p' m1
  rw [show p'.2= .free from beq_iff_eq.mp m2] at this
  haveI h':(env.cells.lookup p'.1).isSome=true:=by simpa using this
  obtain ⟨a,ha⟩:=aaQ.mp h'
  refine y9 ?_
  dsimp only
  rw [ha];rfl
 ·rw [qY];exact List.pairwise_reverse.mpr ((of_decide_eq_true h5:(zG scope).Nodup).imp λh=>Ne.symm h)
 ·haveI hm:p.1∈(kl scope env).map (·.1):=aag.mpr ⟨p,hp,rfl⟩
  rw [qY,aax] at hm
  obtain ⟨x,hx,e⟩:=List.any_eq_true.mp (h6 _ hm)
  exact ⟨x,hx,beq_iff_eq.mp e⟩
 ·rw [qY,aax]
  simpa using h7 x hx
theorem xp {l:List (Str×Addr)} {x y:Str} {c:Addr} (hn:(l.map (·.2)).Nodup) (h1:(x,c)∈l) (h2:(y,c)∈l):x=y:=by
 induction l with
 | nil=>cases h1
 | cons p r ih =>
  rw [aas,List.nodup_cons] at hn
  rcases aal.mp h1 with e1 | h1<;>rcases aal.mp h2 with e2 | h2
  ·rw [<- e1] at e2;exact (congrArg Prod.fst e2).symm
  ·exact absurd (aag.mpr ⟨_,h2,by rw [<- e1]⟩) hn.1
  ·exact absurd (aag.mpr ⟨_,h1,by rw [<- e2]⟩) hn.1
  ·exact ih hn.2 h1 h2
theorem ym {l:List (Str×Addr)} (hn:(l.map (·.1)).Nodup) (h:∀p∈l,∀p'∈l,p.2=p'.2->p.1=p'.1):(l.map (·.2)).Nodup:=by
 induction l with
 | nil=>exact List.nodup_nil
 | cons p r ih =>
  rw [aas,List.nodup_cons] at hn ⊢
  refine ⟨λhm=> ?_,ih hn.2 λa ha b hb=>h a (.tail _ ha) b (.tail _ hb)⟩
  obtain ⟨p',hp',e⟩:=aag.mp hm
  exact hn.1 (aag.mpr ⟨p',hp',h p' (.tail _ hp') p (.head _) e⟩)
section
variable {hq:Bool} {k:Nat} {env:Env} {A:Around} {ι ι' ι0:List Addr} {q q':S} {s s' s0:Shared} {H H':Hp} {h:Heap} {scope:Scope} {cl:List (Str×Addr)} {caps:List String} {Cd:Addr}
theorem kg.weaken {l l':bw} {hv hl:Heap} (x:kg env l ι hv hl) (h:∀y v,l' y=some v->l y=some v):kg env l' ι hv hl :=
 ⟨x.kind,x.glob,x.blt,let ⟨m,hn,hm⟩:=x.loc;⟨m,hn,λy v e e2=>hm y v (h y v e) e2⟩,λy v e e2=>x.cel y v (h y v e) e2,x.cells,x.ndup,x.dis,x.fresh⟩
theorem cJ.weaken {l':bw} (R:cJ A env ι q s) (h:∀y v,l' y=some v->q.l y=some v):cJ A env ι ⟨l',q.H⟩ s:=⟨R.st,R.fr.weaken h,R.fs,R.gens,R.os,R.hn⟩
theorem uX {l:bw} {x:String} {v:V} (e:fx caps l x=some v):x∈caps/\l x=some v:=by
 unfold fx at e
 split at e
 ·rename_i h;exact ⟨h,e⟩
 ·cases e
theorem gn.mem (Z:gn env scope cl caps) {p:Str×Addr} (hp:p∈cl):p∈env.cells:=bk (Z.at' p hp)
theorem gn.own (Z:gn env scope cl caps) {a:Addr} (ha:a∈cl.map (·.2)):a∈own env:=by
 obtain ⟨p,hp,rfl⟩:=aag.mp ha
 exact List.mem_cons_of_mem _ (aag.mpr ⟨p,Z.mem hp,rfl⟩)
theorem gn.look (Z:gn env scope cl caps) {x:String} (hx:x∈caps) {a:Addr} (h:env.cells.lookup (Str.ofString x)=some a):cl.lookup (Str.ofString x)=some a:=by
 obtain ⟨p,hp,e⟩:=aag.mp (Z.cap x hx)
 haveI h1:=Z.at' p hp
 rw [e,h] at h1
 haveI:p=(Str.ofString x,a):=by obtain ⟨p1,p2⟩:=p;dsimp only at e h1;rw [e,Option.some.inj h1]
 exact lookup_of_mem_nodup Z.nd (this▸hp)
theorem lg.comp (ha:lg hq k A env):lg hq k A (compEnvC scope cl Cd env):=⟨ha.toROk,ha.fr⟩
theorem cJ.comp (Z:gn env scope cl caps) (R:cJ A env ι q s) {m:Str->Option Value} (hn:s.heap.Ns Cd m) (hC:Cd∉ι/\G.hB.get? Cd=none) :
  cJ A (compEnvC scope cl Cd env) ι ⟨fx caps q.l,q.H⟩ s where
 st:=R.st
 fs:=R.fs
 gens:=R.gens
 os:=R.os
 hn:=R.hn
 fr:={
  kind:=Z.kind
  glob:=R.fr.glob
  blt:=R.fr.blt
  loc:=⟨m,hn,λx v e e2=>by
   obtain ⟨hx,_⟩:=uX e
   have e2':(relabel scope env).names.lookup (Str.ofString x)=some .local:=e2
   rcases Z.kc x hx with h1 | h1<;>rw [h1] at e2'<;>cases e2'⟩
  cel:=λx v e _=>by
   refine bP λY9 y9=> ?_
   obtain ⟨hx,e⟩:=uX e
   obtain ⟨c,o,cv,h1,h2,h3,h4⟩:=R.fr.cel x v e (Z.ke x hx)
   refine y9 ?_
   exact ⟨c,o,cv,Z.look hx h1,h2,h3,h4⟩
  cells:=λp hp=>R.fr.cells p (Z.mem hp)
  ndup:=ym Z.nd λp hp p' hp' e=>xp (c:=p.2) R.fr.ndup (Z.mem hp) (by rw [e];exact Z.mem hp')
  dis:=λa ha=>by
   rcases aal.mp ha with rfl | ha
   ·exact hC.1
   ·exact R.fr.dis a (Z.own ha)
  fresh:=λa ha=>by
   rcases aal.mp ha with rfl | ha
   ·exact hC.2
   ·exact R.fr.fresh a (Z.own ha) }
theorem bh.comp (Z:gn env scope cl caps) {q0 qc:S} (R0:cJ A env ι0 q0 s0) (P0:bh A env ι0 s0 ι q s) (hC:s0.heap.get? Cd=none) (Rc:cJ A (compEnvC scope cl Cd env) ι qc s)
  (P:bh A (compEnvC scope cl Cd env) ι s ι' q' s') (hl:∀x∈caps,q'.l x=q.l x):bh A env ι0 s0 ι' ⟨q.l,q'.H⟩ s':=by
 have im:oG s.heap s'.heap:=Rc.imm P.kp
 have R:=P0.rel
 obtain ⟨cO,cF,cB⟩:=R0.fresh3 hC
 have isCell:∀a∈env.cells.map (·.2),∃o ov,s.heap.get? a=some o/\o.data= .cell ov:=λa ha=>by
  obtain ⟨p,hp,rfl⟩:=aag.mp ha;exact R.fr.cells p hp
 haveI notFr:∀a∈env.cells.map (·.2),a∉lB A:=λa ha hf=>by
  refine bP λY9 y9=> ?_
  obtain ⟨o,ov,e,d⟩:=isCell a ha
  obtain ⟨o',e',es,n,d'⟩:=eu R.fs hf
  refine y9 ?_
  rw [e] at e';cases e';rw [d] at d';cases d'
 have cellEx:∀a∈env.cells.map (·.2),a∉cl.map (·.2)-> ∀o,s.heap.get? a=some o->s'.heap.get? a=some o:=λa ha hn o e=>by
  have hao:a∈own env:=List.mem_cons_of_mem _ ha
  refine P.kp.ex a o e (λhm=> ?_) (notFr a ha)
  rcases aao.mp hm with h1 | h1
  ·rcases aal.mp h1 with h1 | h1
   ·exact cO ((show a=Cd from h1)▸hao)
   ·exact hn h1
  ·exact R.fr.dis a hao h1
 refine ⟨P0.pre.trans P.pre,⟨P.rel.st,⟨R.fr.kind,R.fr.glob,R.fr.blt,?_,?_,?_,R.fr.ndup,?_,R.fr.fresh⟩,P.rel.fs,P.rel.gens,P.rel.os,P.rel.hn⟩,?_,λa ha=>ru P0.new P0.kp.size P.new ha⟩
 ·refine bP λY9 y9=> ?_
  obtain ⟨m,⟨o,es,ep,ho,hd,r⟩,hm⟩:=R.fr.loc
  obtain ⟨sl,hs⟩:=P.kp.up env.locals o ho λhm=>by
   rcases aao.mp hm with h1 | h1
   ·rcases aal.mp h1 with h1 | h1
    ·exact cO ((show env.locals=Cd from h1) ▸ .head _)
    ·haveI h1':env.locals∈cl.map (·.2):=h1
     obtain ⟨p,hp,e⟩:=aag.mp h1'
     obtain ⟨o',ov,e',d'⟩:=isCell env.locals (aag.mpr ⟨p,Z.mem hp,e⟩)
     rw [ho] at e';cases e';rw [hd] at d';cases d'
   ·exact R.fr.dis _ (.head _) h1
  refine y9 ?_
  exact ⟨m,⟨_,es,ep,hs,hd,r⟩,λy v e e2=>let ⟨cv,a,b⟩:=hm y v e e2;⟨cv,a,b.mono P.pre im⟩⟩
 ·intro x v e e2
  refine bP λY9 y9=> ?_
  obtain ⟨c,o,cv,h1,h2,h3,h4⟩:=R.fr.cel x v e e2
  refine y9 ?_
  have hmem:=bk h1
  by_cases hc:c∈cl.map (·.2)
  ·refine bP λY9 y9=> ?_
   obtain ⟨p,hp,e3⟩:=aag.mp hc
   obtain ⟨y,hy,e4⟩:=Z.all p hp
   refine y9 ?_
   have e5:p.1=Str.ofString x:=xp (c:=c) R.fr.ndup (by haveI:=Z.mem hp;rw [<- e3];exact this) hmem
   obtain rfl:y=x:=f9 (e4.symm.trans e5)
   refine bP λY9 y9=> ?_
   obtain ⟨c',o',cv',k1,k2,k3,k4⟩:=P.rel.fr.cel y v ((hl y hy).trans e) (Z.kc y hy)
   refine y9 ?_
   exact ⟨c',o',cv',Z.at' _ (bk k1),k2,k3,k4⟩
  ·exact ⟨c,o,cv,h1,cellEx c (aag.mpr ⟨_,hmem,rfl⟩) hc o h2,h3,h4.mono P.pre im⟩
 ·intro p hp
  by_cases hc:p.2∈cl.map (·.2)
  ·obtain ⟨p',hp',e⟩:=aag.mp hc
   rw [<- e]
   exact P.rel.fr.cells p' hp'
  ·refine bP λY9 y9=> ?_
   obtain ⟨o,ov,h1,h2⟩:=R.fr.cells p hp
   refine y9 ?_
   exact ⟨o,ov,cellEx p.2 (aag.mpr ⟨p,hp,rfl⟩) hc o h1,h2⟩
 ·intro a ha hi
  rcases P.new a hi with h1 | h1
  ·exact R.fr.dis a ha h1
  ·obtain ⟨o,e,_⟩:=R.fr.mut (λ_ _ e=>e) ha
   rw [h1] at e;cases e
 ·have off:∀a o,s0.heap.get? a=some o->a∉own env++ι0->a∉own (compEnvC scope cl Cd env)++ι:=λa o e hW hm=>by
   rcases aao.mp hm with h1 | h1
   ·rcases aal.mp h1 with h1 | h1
    ·rw [show a=Cd from h1,hC] at e;cases e
    ·exact hW (aaK _ (Z.own h1))
   ·rcases P0.new a h1 with h2 | h2
    ·exact hW (aau _ h2)
    ·rw [h2] at e;cases e
  refine ⟨P0.kp.size.trans P.kp.size,λa o e hW=> ?_,λa o e hW hf=>P.kp.ex a o (P0.kp.ex a o e hW hf) (off a o e hW) hf⟩
  obtain ⟨sl,e1⟩:=P0.kp.up a o e hW
  obtain ⟨sl2,e2⟩:=P.kp.up a _ e1 (off a o e hW)
  exact ⟨sl2,e2⟩
theorem bh.join {q0:S} {D:Addr} {o:O} (R:cJ A env ι q0 s) (P:bh A env ι s ι' q' s') (hs:s.heap.get? D=none) (hD:D∉ι') (ho:pV (ι'++[D]) s'.heap D o) :
  bh A env ι s (ι'++[D]) ⟨q'.l,q'.H++[o]⟩ s':=by
 have pre:ι'<+:ι'++[D]:=aap _ _
 have im:=oG.refl s'.heap
 obtain ⟨n2,n4,n3⟩:=R.fresh3 hs
 have R':=P.rel
 refine ⟨P.pre.trans pre,⟨⟨R'.st.keep,by simp [R'.st.len],?_,?_,?_⟩,⟨R'.fr.kind,R'.fr.glob,R'.fr.blt,?_,?_,R'.fr.cells,R'.fr.ndup,?_,R'.fr.fresh⟩,?_,R'.gens,R'.os,R'.hn⟩,P.kp,?_⟩
 ·exact List.nodup_append.mpr ⟨R'.st.nodup,by simp,λx hx y hy=>by simp at hy;subst hy;exact λe=>hD (e▸hx)⟩
 ·intro x hx
  rcases aao.mp hx with h | h
  ·exact R'.st.fresh x h
  ·simp at h;subst h;exact n3
 ·intro i x y e1 e2
  dsimp only at e2
  by_cases hi:i<ι'.length
  ·rw [aaw hi] at e1
   rw [aaw (R'.st.len▸hi)] at e2
   exact (R'.st.obj i x y e1 e2).stays pre λ_ _ e=>e
  ·haveI hi':i=ι'.length:=by
    haveI:=(aab.mp e1).1
    simp at this;exact aaf (cM 0x100191c0111 this) (cM 0x1010511 hi)
   subst hi'
   simp at e1;subst e1
   rw [R'.st.len] at e2;simp at e2;subst e2
   exact ho
 ·obtain ⟨m,hn,hm⟩:=R'.fr.loc
  exact ⟨m,hn,λy v e e2=>let ⟨cv,a,b⟩:=hm y v e e2;⟨cv,a,b.mono pre im⟩⟩
 ·exact λy v e e2=>let ⟨c,o,cv,a,b,d,f⟩:=R'.fr.cel y v e e2;⟨c,o,cv,a,b,d,f.mono pre im⟩
 ·intro x hx hm
  rcases aao.mp hm with h | h
  ·exact R'.fr.dis x hx h
  ·simp at h;subst h;exact n2 hx
 ·intro env' he
  refine bP λY9 y9=> ?_
  obtain ⟨b1,L,o',b2,b3,b4,b5,b6⟩:=R'.fs env' he
  refine y9 ?_
  refine ⟨b1,L,o',b2,b3,b4,λhm=> ?_,b6⟩
  rcases aao.mp hm with h | h
  ·exact b5 h
  ·simp at h;subst h;exact n4 (List.mem_filterMap.mpr ⟨env',he,b2⟩)
 ·intro x hx
  rcases aao.mp hx with h | h
  ·exact P.new x h
  ·simp at h;subst h;exact .inr hs
end
abbrev Ji (hq:Bool) (k:Nat) (env:Env) (ifs:List Expr) (m:Cm Bool):Prop :=
 Sem.Is hq k env (λA=>mJ A (forIn ifs true λc r=>if r=true then do let ok <- isTrue c env (eval c env);pure (ForInStep.yield ok) else pure (ForInStep.yield r))) m (λ_ _ a b=>a=b)
def D6 (caps:List String) (bd:V->Cm Unit):Prop:= ∀v q u q',bd v q= .ok u q'-> ∀x∈caps,q'.l x=q.l x
section
variable {hq:Bool} {k:Nat} {env:Env} {A:Around} {ι ι' ι0:List Addr} {q q':S} {s s' s0:Shared} {H H':Hp} {h:Heap} {scope:Scope} {cl:List (Str×Addr)} {caps:List String} {Cd:Addr}
theorem qV:Ji hq k env [] (.p true):=λA ι q s ha R=>bg.ret0 R rfl λQ E hQ=>wpAny_tests_nil hQ
theorem ll {c:Expr} {m:Cm Bool} (h:Tr hq k env c m):Ji hq k env [c] m:=λA ι q s ha R=>(h A ι q s ha R).imp λQ E x=>wpAny_tests_one x
theorem eO {x:String} (hx:x∉caps):D6 caps (a9 x):=λv q u q' e y hy=>by
 cases e
 haveI hne:y≠x:=λe=>hx (e▸hy)
 show upd q.l x v y=q.l y
 exact ig _ _ hne
theorem BZ {x y:String} (hx:x∉caps) (hy:y∉caps):D6 caps (xt x y):=λv q u q' e z hz=>by
 cases v with
 | tup l =>
  cases l with
  | nil=>cases e
  | cons a l =>
  cases l with
  | nil=>cases e
  | cons b l =>
  cases l with
  | cons _ _=>cases e
  | nil =>
  cases e
  haveI h1:z≠y:=λe=>hy (e▸hz)
  haveI h2:z≠x:=λe=>hx (e▸hz)
  show upd (upd q.l x _) y _ z=q.l z
  rw [ig _ _ h1,ig _ _ h2]
 | _=>cases e
theorem xS {elt target iter:Expr} {ifs:List Expr} {pos:Pos} {it acc:Value} {cenv:Env} {R:Result->Shared->Prop} (I:Nat->Shared->Prop)
  (turn:∀n s,I n s->wpAny G.M A (pyNext it) (λr s₁=>match r with
   | none=>R (.ok .next) s₁
   | some v=>wpAny G.M A (letOwnedTupleGo target it v) (λ_ s₂=>wpAny G.M A (assign target cenv v) (λ_ s₂ =>
     wpAny G.M A (forIn ifs true λc r=>if r=true then do let ok <- isTrue c cenv (eval c cenv);pure (ForInStep.yield ok) else pure (ForInStep.yield r)) (λok s₃ =>
      if ok=true then wpAny G.M A (eval elt cenv) (λx s₄ =>
       wpAny G.M A (call (.builtin "list.append") [acc,x]) (λ_ s₅=> ∃m,m<n/\I m s₅) (notedBy G.M A cenv λe s'=>R (.error e) s') s₄) (notedBy G.M A cenv λe s'=>R (.error e) s') s₃
      else ∃m,m<n/\I m s₃) (notedBy G.M A cenv λe s'=>R (.error e) s') s₂) (notedBy G.M A cenv λe s'=>R (.error e) s') s₂) (notedBy G.M A cenv λe s'=>R (.error e) s') s₁)
    (notedBy G.M A cenv λe s'=>R (.error e) s') s)
  (n:Nat) (h:I n s):codeAny G.M A (.compLoop (.ListComp elt [⟨target,iter,ifs,0⟩] scope pos) 0 it acc cenv) R s:=by
 refine codeAny_loop rfl I (λn s hI=> ?_) n h
 show wpAny _ A ((compTurn (.ListComp elt [⟨target,iter,ifs,0⟩] scope pos) 0 it acc cenv).onRaise (λx=>do noteFrame x cenv;theTreesLotGoes x)) _ _ s
 refine wpAny_noted ?_
 rw [compTurn_list]
 refine wpAny_bind (wpAny_standAt (wpAny_bind (wpAny_mono (turn n s hI) (λr s₁ h₁=> ?_) λ_ _ h'=>h')))
 cases r with
 | none=>exact wpAny_pure h₁
 | some v =>
  refine wpAny_bind (wpAny_mono h₁ (λ_ s₂ h₂=>wpAny_bind (wpAny_mono h₂ (λ_ s₃ h₃=>wpAny_bind (wpAny_mono h₃ (λok s₄ h₄=> ?_) λ_ _ h'=>h')) λ_ _ h'=>h')) λ_ _ h'=>h')
  cases ok with
  | false=>exact wpAny_pure ⟨rfl,h₄⟩
  | true =>
   exact wpAny_bind (wpAny_bind (wpAny_mono h₄ (λx s₅ h₅=>wpAny_bind (wpAny_mono h₅ (λ_ s₆ h₆=>wpAny_pure (wpAny_pure ⟨rfl,h₆⟩)) λ_ _ h'=>h')) λ_ _ h'=>h'))
theorem DA {h:Heap} {a:Addr} {xs:Array Value} (x:h.PlainList a xs):∃o,h.get? a=some o/\DZ o:=let ⟨n,e⟩:=x;⟨_,e,.inl ⟨"list",rfl,by decide⟩⟩
inductive CI (A:Around) (env cenv:Env) (ι ι1:List Addr) (s:Shared) (l1 lc:bw) (St:Nat->Heap->Prop) (priv:List Addr) (D Cd:Addr) (gg:Hp->Prop) (N:Nat) (Fn:Nat->Hp->List V->Prop) (ys:List V) (i:Nat) (ι':List Addr) (H':Hp) (ya:List V) (yc:List Value) (zs:List V) (s':Shared):Prop
 | mk (z0:i<=N) (z1:ι1<+:ι') (z2:bh A env ι s ι' ⟨l1,H'⟩ s') (z3:cJ A cenv ι' ⟨lc,H'⟩ s') (z4:St i s'.heap) (z5:gg H') (z6:∀b∈priv,b∉ι') (z7:D∉ι') (z8:Cd∉ι') (z9:s'.heap.PlainList D (List.toArray yc)) (z10:aX ι' s'.heap ya yc) (z11:ya.length<=i) (z12:Fn i H' zs) (z13:ya++zs=ys)
inductive CN (A:Around) (env cenv:Env) (ι:List Addr) (s:Shared) (l1 lc:bw) (St:Nat->Heap->Prop) (priv:List Addr) (D Cd:Addr) (i:Nat) (ya:List V) (yc:List Value) (ι4:List Addr) (H4:Hp) (s4:Shared):Prop
 | mk (z0:bh A env ι s ι4 ⟨l1,H4⟩ s4) (z1:cJ A cenv ι4 ⟨lc,H4⟩ s4) (z2:St i s4.heap) (z3:∀b∈priv,b∉ι4) (z4:D∉ι4) (z5:Cd∉ι4) (z6:s4.heap.PlainList D (List.toArray yc)) (z7:aX ι4 s4.heap ya yc)
theorem D9 (Z:gn env scope cl caps) {elt target iter:Expr} {ifs:List Expr} {pos:Pos} {bd:V->Cm Unit} {tst:Cm Bool} {melt:Cm V} {I:Addr} {priv:List Addr} {ι1:List Addr} {it:It} {St:Nat->Heap->Prop} {q1:S} {s1:Shared}
  (ha:lg hq k A env) (R:cJ A env ι q s) (hb:∀L,tX hq k (compEnvC scope cl L env) target bd) (hbd:D6 caps bd) (ht:∀L,Ji hq k (compEnvC scope cl L env) ifs tst)
  (he:∀L,Ev hq k (compEnvC scope cl L env) elt melt) (P1:bh A env ι s ι1 q1 s1) (hI:I6 A target I priv ι1 it St) (h0:St 0 s1.heap) (hp:∀b∈priv,s.heap.get? b=none/\b∉ι1) (hg:it.g q1.H)
  (hlen:it.xs.length<=1000000) {ys:List V} {Hf:Hp} (hc:gj it.g bd tst melt (fx caps q1.l) it.xs q1.H= .ok ys Hf) {RR:Value->Addr->Result->Shared->Prop} {E:Value->Shared->Prop}
  (hRR:∀ι' D Cd m' s',bh A env ι s (ι'++[D]) ⟨q1.l,Hf++[.list ys]⟩ s'->ι'.length=Hf.length->s.heap.get? Cd=none->Cd∉ι'++[D]->s'.heap.Ns Cd m'->RR (.ref D) Cd (.ok .next) s') :
  wpAny G.M A (newList []) (λacc s₃=>wpAny G.M A (newFunctionEnv scope env.globals cl [] env.qual none .none (some env)) (λcenv s₄ =>
   codeAny G.M A (.compStart (.ListComp elt [⟨target,iter,ifs,0⟩] scope pos) 0 (.ref I) acc { cenv with scope:=relabel scope env }) (RR acc cenv.locals) s₄) E s₃) E s1:=by
 refine wpAny_newObj_type (wpAny_newFunctionEnv Z.cell (by intro y hy;simp at hy) (λh₁ hns1 hsb1=> ?_) Z.kind)
 dsimp only at hns1 hsb1 ⊢
 generalize hH2:s1.heap.push { cls:= .type "list",dict:=none,data:= .seq ([]:List Value).toArray }=H2 at hns1 hsb1 ⊢
 generalize hDe:s1.heap.objs.size=D at hns1 hsb1 ⊢
 have hC:H2.objs.size=D+1:=by rw [<- hH2,Heap.size_push,hDe]
 generalize hCe:H2.objs.size=Cd at hns1 hsb1 hC ⊢
 have hDC:D≠Cd:=λx9=>cM 0x90960131191c0312 hC x9
 have nD1:s1.heap.get? D=none:=aaI (cM 0x10010211 hDe)
 have nC1:s1.heap.get? Cd=none:=aaI (mK 0x200191c23110212 hDe hC)
 have up0:∀a,s1.heap.get? a=none->s.heap.get? a=none:=λa ha=>by
  cases e:s.heap.get? a with
  | none=>rfl
  | some o=>obtain ⟨o',e'⟩:=P1.kp.size a o e;rw [ha] at e';cases e'
 have nD:=up0 D nD1
 have nC:=up0 Cd nC1
 obtain ⟨dO,dF,dB⟩:=R.fresh3 nD
 obtain ⟨cO,cF,cB⟩:=R.fresh3 nC
 have old:s1.heap.StaysIn h₁:=λb o e=>hsb1.extBut b o (Nat.ne_of_lt (aa4 (Heap.lt_size e) (by rw [hDe,hC];exact Nat.le_succ _))) (aah _ (hH2▸aah _ e))
 have hacc:h₁.PlainList D #[]:=⟨_,hsb1.extBut _ _ hDC (aah _ (by rw [<- hH2,<- hDe];exact aaG _ rfl))⟩
 have pNe:∀b∈priv,b≠D/\b≠Cd:=λb hb=>by
  obtain ⟨o,e,_⟩:=hI.mu _ _ h0 b hb
  have lt:=Heap.lt_size e
  rw [hDe] at lt
  exact ⟨Nat.ne_of_lt lt,Nat.ne_of_lt (by rw [hC];exact Nat.lt_succ_of_lt lt)⟩
 have pFr:∀b∈priv,b∉own env/\b∉lB A/\G.hB.get? b=none:=λb hb=>R.fresh3 (hp b hb).1
 have pOwn:∀b∈priv,b∉own (compEnvC scope cl Cd env):=λb hb hm=>by
  rcases aal.mp hm with h1 | h1
  ·exact (pNe b hb).2 h1
  ·exact (pFr b hb).1 (Z.own h1)
 have dOwn:D∉own (compEnvC scope cl Cd env):=λhm=>by
  rcases aal.mp hm with h1 | h1
  ·exact hDC h1
  ·exact dO (Z.own h1)
 have haC:lg hq k A (compEnvC scope cl Cd env):=ha.comp
 have loop:∀s₂:Shared,s₂={ s1 with heap:=h₁,toks:=s1.toks+([]:List (Str×Value)).length } ->
   codeAny G.M A (.compLoop (.ListComp elt [⟨target,iter,ifs,0⟩] scope pos) 0 (.ref I) (.ref D) (compEnvC scope cl Cd env)) (RR (.ref D) Cd) s₂:=by
  rintro s₂ rfl
  have P2:bh A env ι s ι1 q1 { s1 with heap:=h₁,toks:=s1.toks+([]:List (Str×Value)).length }:=P1.trans (bh.stays P1.rel old)
  have cI1:Cd∉ι1:=(P1.rel.fresh_ne nC1).1
  have dI1:D∉ι1:=(P1.rel.fresh_ne nD1).1
  obtain ⟨J,toJ,ofJ⟩:∃J:Nat->Shared->Prop,(∀n s',(∃i ι' H' ya yc zs,n=it.xs.length+1-i/\CI A env (compEnvC scope cl Cd env) ι ι1 s q1.l (fx caps q1.l) St priv D Cd it.g it.xs.length (λi H' zs=>gj it.g bd tst melt (fx caps q1.l) (it.xs.drop i) H'= .ok zs Hf) ys i ι' H' ya yc zs s')->J n s')/\ ∀n s',J n s'-> ∃i ι' H' ya yc zs,n=it.xs.length+1-i/\CI A env (compEnvC scope cl Cd env) ι ι1 s q1.l (fx caps q1.l) St priv D Cd it.g it.xs.length (λi H' zs=>gj it.g bd tst melt (fx caps q1.l) (it.xs.drop i) H'= .ok zs Hf) ys i ι' H' ya yc zs s':=⟨_,λ_ _ h=>h,λ_ _ h=>h⟩
  refine xS J ?_ (it.xs.length+1) (toJ _ _ ⟨0,ι1,q1.H,[],[],ys,rfl,Nat.zero_le _,aac _,P2,cJ.comp Z P2.rel hns1 ⟨cI1,cB⟩,hI.frame _ _ _ h0 (λb _ o e=>old b o e),hg,λb hb=>(hp b hb).2,dI1,cI1,hacc,yW,aaD _,by rw [List.drop_zero];exact hc,rfl⟩)
  intro n s' hJ
  obtain ⟨i,ι',H',ya,yc,zs,rfl,hi,hpre,P,Rc,hst,hg',hpi,hDi,hCi,hpl,hvr,hyl,hcf,hys⟩:=ofJ n s' hJ
  have hp':∀b∈priv,s.heap.get? b=none/\b∉ι':=λb hb=>⟨(hp b hb).1,hpi b hb⟩
  have hcp:∀b∈priv,b∉ι'/\b∉own (compEnvC scope cl Cd env)/\b∉lB A/\G.hB.get? b=none:=λb hb=>⟨hpi b hb,pOwn b hb,(pFr b hb).2.1,(pFr b hb).2.2⟩
  rcases Nat.lt_or_ge i it.xs.length with hlt | hge
  ·obtain ⟨x,hx⟩:∃x,it.xs[i]? = some x:=⟨_,aak hlt⟩
   haveI hdrop:it.xs.drop i=x::it.xs.drop (i+1):=by
    rw [List.drop_eq_getElem_cons hlt];congr 1;rw [aak hlt] at hx;exact Option.some.inj hx
   rw [hdrop] at hcf
   obtain ⟨o,H2',zs',hstep,hg2,hrest,hz⟩:=Em hcf
   obtain ⟨u,qa,hbx,hcase⟩:=zl hstep
   refine wpAny_mono (hI.item i x s' ι' H' _ _ hx hpre hpi P.rel.st hg' hst λv h' tk hk hv hst'=> ?_) (λr s₁ y=>by
    cases r with
    | none=>exact y.elim
    | some v=>exact y) λ_ _ y=>y
   obtain ⟨Pa,im⟩:=bh.off (tk:=tk) R P hp' (hI.mu _ _ hst) hk
   obtain ⟨Rc2,_⟩:=Rc.off (tk:=tk) hcp (hI.mu _ _ hst) hk
   have hpl2:h'.PlainList D yc.toArray:=hpl.at λo e=>hk D o (λhm=>(pNe D hm).1 rfl) e
   haveI hvr2:=hvr.mono (aac _) im
   haveI hA:=hb Cd A ι' ⟨fx caps q1.l,H'⟩ _ x v haC Rc2 hv
   rw [hbx] at hA
   refine hA _ _ λι2 _ s3 Pb _=> ?_
   have hT:=ht Cd A ι2 qa s3 haC Pb.rel
   have hcaps:∀y∈caps,qa.l y=q1.l y:=λy hy=>(hbd _ _ _ _ hbx y hy).trans (if_pos hy)
   have next:∀ {ι4:List Addr} {H4:Hp} {s4:Shared},bh A (compEnvC scope cl Cd env) ι' { s' with heap:=h',toks:=tk } ι4 ⟨qa.l,H4⟩ s4 ->
     CN A env (compEnvC scope cl Cd env) ι s q1.l (fx caps q1.l) St priv D Cd (i+1) ya yc ι4 H4 s4:=λ{ι4 H4 s4} Pc=>by
    have there:∀b o,h'.get? b=some o->b∉ι'->b∉ι4:=λb o e hn hm=>by
     rcases Pc.new b hm with h1 | h1
     ·exact hn h1
     ·have h1':h'.get? b=none:=h1
      rw [e] at h1';cases h1'
    refine ⟨bh.comp Z R Pa nC Rc2 Pc hcaps,Pc.rel.weaken λy v e=> ?_,hI.frame _ _ _ hst' λb hb o e=> ?_,λb hb=> ?_,?_,?_,?_,hvr2.mono Pc.pre (Rc2.imm Pc.kp)⟩
    ·obtain ⟨hy,e⟩:=uX e
     exact (hcaps y hy).trans e
    ·exact Pc.kp.ex b o e (λhm=>(aao.mp hm).elim (pOwn b hb) (hpi b hb)) (pFr b hb).2.1
    ·obtain ⟨o,e,_⟩:=hI.mu _ _ hst' b hb
     exact there b o e (hpi b hb)
    ·obtain ⟨n,e⟩:=hpl2
     exact there D _ e hDi
    ·obtain ⟨m,⟨o,es,ep,e,_⟩,_⟩:=Rc2.fr.loc
     exact there Cd o e hCi
    ·exact hpl2.at λo e=>Pc.kp.ex D o e (λhm=>(aao.mp hm).elim dOwn hDi) dF
   rcases hcase with ⟨htst,rfl⟩ | ⟨H3,y,htst,helt,rfl⟩
   ·rw [htst] at hT
    refine hT _ _ λι3 bb s4 Pt hbb=> ?_
    cases hbb
    simp only [Bool.false_eq_true,if_false]
    obtain ⟨a1,a2,a3,a4,a5,a6,a7,a8⟩:=next (Pb.trans Pt)
    exact ⟨it.xs.length+1-(i+1),vS 0x30113c192c01192c191c0c212 (aaa (cM 0x191c190c010011 hi)) (sA _ _),toJ _ _ ⟨i+1,ι3,H2',ya,yc,zs',rfl,hlt,hpre.trans ((Pb.trans Pt).pre),a1,a2,a3,hg2,a4,a5,a6,a7,a8,Nat.le_succ_of_le hyl,hrest,by rw [<- hys,hz];rfl⟩⟩
   ·rw [htst] at hT
    refine hT _ _ λι3 bb s4 Pt hbb=> ?_
    cases hbb
    simp only [if_true]
    haveI hE:=he Cd A ι3 ⟨qa.l,H3⟩ s4 haC Pt.rel
    rw [helt] at hE
    refine hE _ _ λι4 cy s5 Pe hvy=> ?_
    obtain ⟨a1,a2,a3,a4,a5,a6,a7,a8⟩:=next ((Pb.trans Pt).trans Pe)
    haveI hyc:yc.length=ya.length:=a8.length
    refine wpAny_list_append_plain a7 (λh5 hpl5 hs5=> ?_) (by rw [aaL,hyc,sizeLine_eq];exact mK 0xb20120101010f4240a0013 hlen hi hyl)
    have hmD:∀b∈[D],∃o,s5.heap.get? b=some o/\DZ o:=λb hb=>by simp at hb;subst hb;exact DA a7
    have hk5:∀b o,b∉[D]->s5.heap.get? b=some o->h5.get? b=some o:=λb o hb e=>hs5.extBut b o (λq=>hb (by simp [q])) e
    obtain ⟨P6,im6⟩:=bh.off (tk:=s5.toks) R a1 (priv:=[D]) (λb hb=>by simp at hb;subst hb;exact ⟨nD,a5⟩) hmD hk5
    obtain ⟨R6,_⟩:=a2.off (tk:=s5.toks) (priv:=[D]) (λb hb=>by simp at hb;subst hb;exact ⟨a5,dOwn,dF,dB⟩) hmD hk5
    haveI hpush:yc.toArray.push cy=(yc++[cy]).toArray:=by simp
    rw [hpush] at hpl5
    refine ⟨it.xs.length+1-(i+1),vS 0x30113c192c01192c191c0c212 (aaa (cM 0x191c190c010011 hi)) (sA _ _),toJ _ _ ⟨i+1,ι4,H2',ya++[y],yc++[cy],zs',rfl,hlt,hpre.trans (((Pb.trans Pt).trans Pe).pre),P6,R6,hI.frame _ _ _ a3 λb hb o e=>hs5.extBut b o (pNe b hb).1 e,hg2,a4,a5,a6,hpl5,
     (a8.append (pf hvy yW)).mono (aac _) im6,by rw [aad];exact Nat.succ_le_succ hyl,hrest,by rw [<- hys,hz,aae];rfl⟩⟩
  ·haveI hi':i=it.xs.length:=aaf (hi) (hge)
   subst hi'
   rw [List.drop_length] at hcf
   cases hcf
   rw [List.append_nil] at hys
   subst hys
   refine wpAny_mono (hI.done s' ι' Hf (λs₁=>RR (.ref D) Cd (.ok .next) s₁) _ hpre hpi P.rel.st hg' hst P.rel.hn λh' tk hk=> ?_) (λr s₁ y=> ?_) λ_ _ y=>y
   ·obtain ⟨P2,im⟩:=bh.off (tk:=tk) R P hp' (hI.mu _ _ hst) hk
    obtain ⟨Rc2,_⟩:=Rc.off (tk:=tk) hcp (hI.mu _ _ hst) hk
    haveI hpl2:h'.PlainList D yc.toArray:=hpl.at λo e=>hk D o (λhm=>(pNe D hm).1 rfl) e
    obtain ⟨m,hn,_⟩:=Rc2.fr.loc
    exact hRR ι' D Cd m _ (bh.join R P2 nD hDi ⟨yc,hpl2,hvr.mono (aap _ _) im⟩) P.rel.st.len nC (λhm=>(aao.mp hm).elim hCi λh1=>by simp at h1;exact hDC h1.symm) hn
   ·cases r with
    | none=>exact y
    | some v=>exact y.elim
 have hst1:St 0 h₁:=hI.frame _ _ _ h0 λb _ o e=>old b o e
 exact codeAny_compStart_list (loop _ rfl) (hI.self 0 _ _ _ hst1 (loop _ rfl))
theorem zk {mi:Cm It} {bd:V->Cm Unit} {tst:Cm Bool} {melt:Cm V} {it:It} {q1:S} (e:mi q= .ok it q1) :
  db caps mi bd tst melt q= .stuck\/ ∃ys Hf,it.xs.length<=1000000/\gj it.g bd tst melt (fx caps q1.l) it.xs q1.H= .ok ys Hf/\db caps mi bd tst melt q= .ok (.ref Hf.length) ⟨q1.l,Hf++[.list ys]⟩:=by
 unfold db
 rw [fB e]
 by_cases hl:it.xs.length<=1000000
 ·cases h:gj it.g bd tst melt (fx caps q1.l) it.xs q1.H with
  | ok ys Hf=>exact .inr ⟨ys,Hf,hl,rfl,if_pos hl⟩
  | _=>exact .inl (if_pos hl)
 ·exact .inl (if_neg hl)
theorem IC {h:Heap} {a:Addr} {m:Str->Option Value} (x:h.Ns a m):∃o,h.get? a=some o/\DZ o:=let ⟨o,es,ep,e,d,_⟩:=x;⟨o,e,.inr (.inl ⟨es,ep,d⟩)⟩
theorem gp {elt target iter:Expr} {ifs:List Expr} {pos:Pos} (caps:List String) {mi:Cm It} {bd:V->Cm Unit} {tst:Cm Bool} {melt:Cm V} (hB:B2 scope env caps=true) (hclos:closureFor scope env=pure (kl scope env))
  (hi:HH hq k env target iter mi) (hb:∀L,tX hq k (compEnvC scope (kl scope env) L env) target bd) (hbd:D6 caps bd) (ht:∀L,Ji hq k (compEnvC scope (kl scope env) L env) ifs tst)
  (he:∀L,Ev hq k (compEnvC scope (kl scope env) L env) elt melt) (hs:∀x,foldedSetIterable iter env x=pure x) :
  Ev hq k env (.ListComp elt [⟨target,iter,ifs,0⟩] scope pos) (db caps mi bd tst melt):=by
 intro A ι q s ha R
 have Z:=gn.of hB
 refine bg.of λQ E hQ=> ?_
 rw [eval_ListComp]
 refine wpAny_comprehension_free (use:=none) rfl hs hclos Z.kind Z.names ?_
 have hi':=hi A ι q s ha R
 cases hmi:mi q with
 | stuck=>unfold db at hQ;rw [cE hmi] at hQ;exact hQ.elim
 | exc c q1=>unfold db at hQ;rw [gC hmi] at hQ;rw [hmi] at hi';exact hi' _ _ hQ
 | ok it q1 =>
  rw [hmi] at hi'
  rcases zk (caps:=caps) (bd:=bd) (tst:=tst) (melt:=melt) hmi with hst | ⟨ys,Hf,hl,hc,hok⟩
  ·rw [hst] at hQ;exact hQ.elim
  ·rw [hok] at hQ
   refine hi' _ _ λι1 cv s1 P1 hr=> ?_
   refine bP λY9 y9=> ?_
   obtain ⟨⟨I,priv,St,rfl,h0,hp,_,hI⟩,hg⟩:=hr
   refine y9 ?_
   refine D9 (RR:=λacc C=>compPost G.M A E none Q acc C) Z ha R hb hbd ht he P1 hI h0 hp (hg q1 rfl) hl hc λι' D Cd m' s' P hlen nC hCi hn=> ?_
   refine ⟨m',hn,λh' hs'=> ?_⟩
   obtain ⟨P2,_⟩:=bh.off (tk:=s'.toks) R P (priv:=[Cd]) (λb hb=>by simp at hb;subst hb;exact ⟨nC,hCi⟩) (λb hb=>by simp at hb;subst hb;exact IC hn) λb o hb e=>hs'.extBut b o (λq=>hb (by simp [q])) e
   exact hQ _ (.ref D) _ P2 ⟨D,by rw [<- hlen];simp,rfl⟩
theorem wP {elt target iter:Expr} {ifs:List Expr} {pos py spos:Pos} {y:String} (caps:List String) {mi:Cm It} {bd:V->Cm Unit} {tst:Cm Bool} {melt:Cm V} (hB:B2 scope env caps=true)
  (hclos:closureFor scope env=pure (kl scope env))
  (hi:HH hq k env target iter mi) (hb:∀L,tX hq k (compEnvC scope (kl scope env) L env) target bd) (hbd:D6 caps bd) (ht:∀L,Ji hq k (compEnvC scope (kl scope env) L env) ifs tst)
  (he:∀L,Ev hq k (compEnvC scope (kl scope env) L env) elt melt) (hs:∀x,foldedSetIterable iter env x=pure x)
  (hsw:swapsWith (.ListComp elt [⟨target,iter,ifs,0⟩] scope pos) (some (.Name (Str.ofString y) py)) spos.line env=pure true) (hy:env.kindOf (Str.ofString y)=some .local) :
  Ex hq k env (.Assign [.Name (Str.ofString y) py] (.ListComp elt [⟨target,iter,ifs,0⟩] scope pos) spos) ((db caps mi bd tst melt).b λv=>(a9 y v).b λ_=> .p .next):=by
 intro A ι q s ha R
 have Z:=gn.of hB
 refine bg.of λQ E hQ=> ?_
 rw [exec_Assign_Name_used _ _ _ _ hsw]
 refine wpAny_bind (wpAny_standAt (wpAny_bind ?_))
 show wpAny _ A (do let _ <- comprehension (.ListComp elt [⟨target,iter,ifs,0⟩] scope pos) scope env _ (newList []) false (eval iter env) (some (assign (.Name (Str.ofString y) py) env))) _ _ s
 refine wpAny_bind (wpAny_mono (wpAny_comprehension_free (use:=some (assign (.Name (Str.ofString y) py) env)) (Q:=λ_ s'=>Q .next s') rfl hs hclos Z.kind Z.names ?_) (λ_ s' hq=>wpAny_pure (wpAny_pure hq)) λ_ _ e=>e)
 have hi':=hi A ι q s ha R
 cases hmi:mi q with
 | stuck=>rw [cE (show db caps mi bd tst melt q= .stuck by unfold db;exact cE hmi)] at hQ;exact hQ.elim
 | exc c q1=>rw [gC (show db caps mi bd tst melt q= .exc c q1 by unfold db;exact gC hmi)] at hQ;rw [hmi] at hi';exact hi' _ _ hQ
 | ok it q1 =>
  rw [hmi] at hi'
  rcases zk (caps:=caps) (bd:=bd) (tst:=tst) (melt:=melt) hmi with hst | ⟨ys,Hf,hl,hc,hok⟩
  ·rw [cE hst] at hQ;exact hQ.elim
  ·rw [fB hok] at hQ
   refine hi' _ _ λι1 cv s1 P1 hr=> ?_
   refine bP λY9 y9=> ?_
   obtain ⟨⟨I,priv,St,rfl,h0,hp,_,hI⟩,hg⟩:=hr
   refine y9 ?_
   refine D9 (RR:=λacc C=>compPost G.M A E (some (assign (.Name (Str.ofString y) py) env)) (λ_ s'=>Q .next s') acc C) Z ha R hb hbd ht he P1 hI h0 hp (hg q1 rfl) hl hc λι' D Cd m' s' P hlen nC hCi hn=> ?_
   show wpAny _ A (assign (.Name (Str.ofString y) py) env (.ref D)) _ _ _
   refine wpAny_assign_Name (nV (v:= .ref Hf.length) (.inl hy) P.rel ⟨D,by rw [<- hlen];simp,rfl⟩ _ _ λι2 u s2 P2 _=> ?_)
   haveI P3:=P.trans P2
   have cO:=R.fresh3 nC
   refine bP λY9 y9=> ?_
   obtain ⟨oC,es,ep,eC,dC,r⟩:=hn
   refine y9 ?_
   have eC2:s2.heap.get? Cd=some oC:=P2.kp.ex Cd oC eC (λhm=>(aao.mp hm).elim cO.1 hCi) cO.2.1
   have hC2:Cd∉ι2:=λhm=>by
    rcases P2.new Cd hm with h1 | h1
    ·exact hCi h1
    ·rw [eC] at h1;cases h1
   refine ⟨m',⟨oC,es,ep,eC2,dC,r⟩,λh' hs'=> ?_⟩
   obtain ⟨P4,_⟩:=bh.off (tk:=s2.toks) R P3 (priv:=[Cd]) (λb hb=>by simp at hb;subst hb;exact ⟨nC,hC2⟩) (λb hb=>by simp at hb;subst hb;exact ⟨oC,eC2,.inr (.inl ⟨es,ep,dC⟩)⟩)
    λb o hb e=>hs'.extBut b o (λq=>hb (by simp [q])) e
   exact hQ _ .next _ P4 rfl
noncomputable def gK (i:Int):List V->List V
 | []=>[]
 | x::r=> .tup [.int i,x]::gK (i+1) r
theorem ip:∀(xs:List V) (i:Int),(gK i xs).length=xs.length
 | [],_=>rfl
 | x::r,i=>by rw [gK,aav,ip r,aav]
theorem wT:∀(xs:List V) (a:Int) (i:Nat) (y:V),(gK a xs)[i]? = some y-> ∃x,xs[i]? = some x/\y= .tup [.int (a+i),x]
 | [],a,i,y,e=>by simp [gK] at e
 | x::r,a,0,y,e=>by simp [gK] at e;exact ⟨x,rfl,by rw [<- e];simp⟩
 | x::r,a,i+1,y,e=>by
  simp [gK] at e
  obtain ⟨z,h1,h2⟩:=wT r (a+1) i y e
  exact ⟨z,by simpa using h1,by rw [h2];congr 3;push_cast;exact aa0 (j5 0x190fc0c0f190cc80) (j5 0xf190cc190fc0c80)⟩
noncomputable def oO:List V->Cm It
 | [o]=>λq=>(match ay o q.H with
  | some xs=> .ok ⟨gK 0 xs,λH=>ay o H=some xs⟩ q
  | none=> .stuck)
 | _=> .stk
theorem EN (C:bJ G) (hh:A.handled=none) {es:List Expr} {kk:Nat} {p:Pos} {e it l:Addr} {v:V} {xs:List V} (hv:∀ι',ι<+:ι'-> ∀h,aT ι' h v (.ref l)) (hei:e≠it) (hle:l≠e) (hli:l≠it) :
  I6 A (.Tuple es kk p) e [e,it] ι ⟨gK 0 xs,λH=>ay v H=some xs⟩ (λi h=>(∃old,IsEnum h e it (i:Nat) old)/\h.IsListIter it l i) where
 mu:=λi h st b hb=>by
  obtain ⟨⟨old,he⟩,hit⟩:=st
  simp at hb
  rcases hb with rfl | rfl
  ·exact ⟨_,he,.inl ⟨_,rfl,by decide⟩⟩
  ·exact fX hit
 frame:=λi h h' st hk=>⟨let ⟨old,he⟩:=st.1;⟨old,hk e (by simp) _ he⟩,st.2.at λo x=>hk it (by simp) o x⟩
 item:=λi x s ι' H Q E hx hpre hpi R hg st hQ=>by
  refine bP λY9 y9=> ?_
  obtain ⟨⟨old,he⟩,hit⟩:=st
  obtain ⟨xi,hxi,rfl⟩:=wT _ _ _ _ hx
  obtain ⟨a,vs,e',g1,g2⟩:=fV C R (hv ι' hpre s.heap) hg
  refine y9 ?_
  cases e'
  obtain ⟨cv,c1,c2⟩:=g2.get hxi
  refine wpAny_pyNext_enum_item he hit g1 (x:=cv) (by simpa using c1) hei λh' ho hit' hT hsz hk=> ?_
  refine wpAny_letOwnedTupleGo_enum ho λh'' he'' hs''=> ?_
  have hs2:Heap.SameBut e h' h'':=hs''
  have helt:e<s.heap.objs.size:=Heap.lt_size he
  have kk2:∀b o,b∉[e,it]->s.heap.get? b=some o->h''.get? b=some o:=λb o hb e'=>hs2.extBut b o (λq=>hb (by simp [q])) (hk b o (λq=>hb (by simp [q])) (λq=>hb (by simp [q])) e')
  haveI im:oG s.heap h'':=λb o e' hmu=>⟨o.slots,kk2 b o (λhb=>by
   simp at hb
   rcases hb with rfl | rfl
   ·rw [he] at e';cases e';exact hmu (.inl ⟨_,rfl,by decide⟩)
   ·obtain ⟨o',e2,m2⟩:=fX hit;rw [e'] at e2;cases e2;exact hmu m2) e'⟩
  refine hQ _ h'' _ kk2 ⟨_,[.int i s.toks,cv],rfl,⟨_,hs2.extBut _ _ (Nat.ne_of_gt helt) hT,rfl,_,rfl⟩,?_⟩ ⟨⟨cv,by simpa using he''⟩,hit'.at λo y=>hs2.extBut _ _ hei.symm y⟩
  exact pf ⟨s.toks,by simp⟩ (pf (c2.mono (aac _) im) yW)
 done:=λs ι' H Q E hpre hpi R hg st hn hQ=>by
  refine bP λY9 y9=> ?_
  obtain ⟨⟨old,he⟩,hit⟩:=st
  obtain ⟨a,vs,e',g1,g2⟩:=fV C R (hv ι' hpre s.heap) hg
  refine y9 ?_
  cases e'
  dsimp only at he hit
  rw [ip] at he hit
  refine wpAny_pyNext_enum_end hh he hit g1 (by simp [g2.length]) λh' hs=> ?_
  exact hQ h' s.toks λb o hb e'=>hs b o (λq=>hb (by simp [q])) e'
 self:=λi s Q E st hQ=>let ⟨⟨old,he⟩,_⟩:=st;wpAny_pyIter_enum he hQ
theorem HM (C:bJ G) (hh:A.handled=none) {es:List Expr} {kk:Nat} {p:Pos} (R:cJ A env ι q s) {vs:List V} {cvs:List Value} (hv:aX ι s.heap vs cvs) :
  bg A env ι s (oO vs q) (λι' h it cv=>zc A (.Tuple es kk p) s.heap ι' h it cv/\ ∀q',oO vs q= .ok it q'->it.g q'.H)
   (λQ E s=>wpAny G.M A (call (.type "enumerate") cvs) (λx s₁=>wpAny G.M A (pyIter x) Q E s₁) E s):=by
 cases vs with
 | nil=>trivial
 | cons v vs =>
 cases vs with
 | cons _ _=>trivial
 | nil =>
  obtain ⟨cv,_,rfl,h1,e⟩:=hv;rw [show _=[] from e]
  unfold oO;dsimp only
  cases hi:ay v q.H with
  | none=>trivial
  | some xs =>
   obtain ⟨l,vs,rfl,g1,g2⟩:=fV C R.st h1 hi
   intro Q E hQ
   have hl:l<s.heap.objs.size:=by obtain ⟨o,e,_⟩:=g1;exact Heap.lt_size e
   haveI hv2:∀ι',ι<+:ι'-> ∀h,aT ι' h v (.ref l):=λι' hp h=>ut hi h1 hp
   refine call_enumerate_list g1 λh' hE hL hsz hk=>wpAny_pyIter_enum hE ?_
   have n0:s.heap.get? s.heap.objs.size=none:=aaI (aaD _)
   have n1:s.heap.get? (s.heap.objs.size+1)=none:=aaI (cU 0x190c000)
   refine hQ ι _ _ (bh.stays (tk:=s.toks) R hk) ⟨⟨_,[s.heap.objs.size+1,s.heap.objs.size],_,rfl,⟨⟨_,by simpa using hE⟩,hL⟩,λb hb=> ?_,λ_ _=>trivial,
    EN C hh hv2 (Nat.succ_ne_self _) (Nat.ne_of_lt (Nat.lt_succ_of_lt hl)) (Nat.ne_of_lt hl)⟩,λq' e=> ?_⟩
   ·simp at hb
    rcases hb with rfl | rfl
    ·exact ⟨n1,(R.fresh_ne n1).1⟩
    ·exact ⟨n0,(R.fresh_ne n0).1⟩
   ·cases e;exact hi
theorem D7 (C:bJ G) (hh:hq=true) {ts:List Expr} {kk:Nat} {pt p pos:Pos} {es:List Expr} {m:Cm (List V)} (hx:env.kindOf (Str.ofString "enumerate")=some .globalImplicit)
  (hv:nsIn G.K mainGlobals (Str.ofString "enumerate")=some none) (h1:C8 hq k env es m) (hp:(backTo pos (starEach es env)).any (·.1)=false) :
  HH hq k env (.Tuple ts kk pt) (.Call (.Name (Str.ofString "enumerate") p) es [] pos) (m.b λvs=>oO vs) :=
 Hg C hx hv (bv:= .type "enumerate") ∅ ∅ ∅ (il _) h1 hp λA ι q s vs cvs ha R hv=>HM C (ha.hd hh) R hv
end
section
variable {g:Hp->Prop} {bd:V->Cm Unit} {tst:Cm Bool} {elt:Cm V} {lc l1:bw} {H H2 H3:Hp} {v y:V} {u:Unit} {caps:List String}
theorem fR (h1:bd v ⟨lc,H⟩= .ok u ⟨l1,H⟩) (h2:tst ⟨l1,H⟩= .ok true ⟨l1,H2⟩) (h3:elt ⟨l1,H2⟩= .ok y ⟨l1,H3⟩):bS bd tst elt lc v H= .ok (some y) H3:=by
 unfold bS;rw [h1];dsimp only;rw [h2,uu];dsimp only;rw [h3,uu]
theorem gJ (h1:bd v ⟨lc,H⟩= .ok u ⟨l1,H⟩) (h2:tst ⟨l1,H⟩= .ok false ⟨l1,H2⟩):bS bd tst elt lc v H= .ok none H2:=by
 unfold bS;rw [h1];dsimp only;rw [h2,uu]
theorem zj {r:List V} {o:Option V} {ys:List V} (h:bS bd tst elt lc v H= .ok o H2) (hg:g H2) (h2:gj g bd tst elt lc r H2= .ok ys H3):gj g bd tst elt lc (v::r) H= .ok (o.toList++ys) H3:=by
 rw [tZ,h];dsimp only;rw [if_pos hg,h2]
theorem qf {α β:Type} (φ : α->Option β) (x:α) (xs:List α):(φ x).toList++xs.filterMap φ = (x::xs).filterMap φ := by
 cases e : φ x with
 | none=>rw [List.filterMap_cons_none e];rfl
 | some z=>rw [List.filterMap_cons_some e];rfl
theorem iF (hg:g H) (φ : V->Option V):∀xs:List V,(∀x∈xs,bS bd tst elt lc x H= .ok (φ x) H)->gj g bd tst elt lc xs H= .ok (xs.filterMap φ) H
 | [],_=>rfl
 | x::xs,h=>by rw [zj (h x (.head _)) hg (iF hg φ xs λz hz=>h z (.tail _ hz)),qf]
theorem iG {mi:Cm It} {it:It} {l:bw} {H1:Hp} {ys:List V} (h1:mi ⟨l,H⟩= .ok it ⟨l,H1⟩) (hl:it.xs.length<=1000000) (hc:gj it.g bd tst elt (fx caps l) it.xs H1= .ok ys H2) :
  db caps mi bd tst elt ⟨l,H⟩= .ok (.ref H2.length) ⟨l,H2++[.list ys]⟩:=by
 unfold db
 rw [fB h1]
 dsimp only
 rw [if_pos hl,hc]
theorem CK {l:bw} {x:String} (h:x∈caps):fx caps l x=l x:=if_pos h
end
noncomputable def bA:List Bool->Option Nat
 | []=>none
 | false::_=>some 0
 | true::r=>(bA r).map (· + 1)
theorem jD:∀ {bs:List Bool} {j:Nat},bA bs=some j->j<bs.length/\bs[j]? = some false
 | [],_,e=>by cases e
 | false::r,_,e=>by cases e;exact ⟨by simp,rfl⟩
 | true::r,j,e=>by
  obtain ⟨k,h1,rfl⟩:=Option.map_eq_some_iff.mp e
  obtain ⟨h2,h3⟩:=jD h1
  exact ⟨by simp;exact h2,by simpa using h3⟩
noncomputable def gN (a:Int):List Bool->List Int
 | []=>[]
 | false::r=>a::gN (a+1) r
 | true::r=>gN (a+1) r
theorem rc:∀(bs:List Bool) (a:Int),(gN a bs).length+bs.count true=bs.length
 | [],_=>rfl
 | false::r,a=>by
  haveI:=rc r (a+1)
  rw [aa5 ∅,aav,<- this,Nat.add_right_comm];rfl
 | true::r,a=>by
  haveI:=rc r (a+1)
  rw [List.count_cons_self,aav,<- this,<- Nat.add_assoc];rfl
section
variable {H:Hp} {i:Nat} {bs:List Bool} {l:bw}
theorem sJ {k:Int} {b:Bool} (h:H[i]? = some (.list (bs.map .bool))) (h0:0<=k) (h1:k<1000000) (hb:bs[k.toNat]? = some b):aR (.ref i) (.int k) ⟨l,H⟩= .ok (.bool b) ⟨l,H⟩:=by
 unfold aR;dsimp only;rw [h];dsimp only;rw [if_pos ⟨h0,h1⟩,List.getElem?_map,hb];rfl
theorem nt {k:Int} {b:Bool} (h:H[i]? = some (.list (bs.map .bool))) (h0:0<=k) (h1:k<1000000) (hb:k<bs.length):dn (.ref i) (.int k) (.bool b) ⟨l,H⟩= .ok () ⟨l,H.set i (.list ((bs.set k.toNat b).map .bool))⟩:=by
 unfold dn;dsimp only;rw [h];dsimp only;rw [if_pos ⟨h0,h1,by rw [aai];exact hb⟩,List.map_set]
theorem cH {xs:List V} (h:H[i]? = some (.list xs)) (hl:xs.length<1000000):eW [.ref i] ⟨l,H⟩= .ok (.int xs.length) ⟨l,H⟩:=by
 unfold eW;dsimp only;rw [h];exact if_pos hl
end
noncomputable def jF (bs:List Bool) (k:Int):Bool:=if 0<=k/\k<bs.length then (bs[k.toNat]?).getD false else false
noncomputable def Jz:V->Option V
 | .tup [.int i,.bool b]=>if b then none else some (.int i)
 | _=>none
theorem pz:∀(bs:List Bool) (a:Int),(gK a (bs.map V.bool)).filterMap Jz=(gN a bs).map V.int
 | [],_=>rfl
 | true::r,a=>pz r (a+1)
 | false::r,a=>congrArg (V.int a :: ·) (pz r (a+1))
theorem uc:∀(bs:List Bool) (a:Int) (x:V),x∈gK a (bs.map V.bool)-> ∃i b,x= .tup [.int i,.bool b]
 | [],_,_,h=>by cases h
 | b::r,a,x,h=>by
  rw [aas,gK] at h
  rcases aal.mp h with rfl | h
  ·exact ⟨_,_,rfl⟩
  ·exact uc r _ x h
noncomputable def Jy:V->Option V
 | .bool true=>some (.bool true)
 | _=>none
theorem rq:∀bs:List Bool,(bs.map V.bool).filterMap Jy=List.replicate (bs.count true) (V.bool true)
 | []=>rfl
 | true::r=>by rw [aas,List.filterMap_cons_some (by rfl),rq r,List.count_cons_self,List.replicate_succ]
 | false::r=>by rw [aas,List.filterMap_cons_none (by rfl),rq r,aa5 ∅]
noncomputable def Bl (x:Int):List Int->List Int
 | []=>[x]
 | y::r=>if x<=y then x::y::r else y::Bl x r
noncomputable def eD:List Int->List Int
 | []=>[]
 | x::r=>Bl x (eD r)
theorem re (x:Int):∀l:List Int,(Bl x l).Perm (x::l)
 | []=> .refl _
 | y::r=>by
  unfold Bl
  split
  ·exact .refl _
  ·exact ((re x r).cons y).trans (.swap x y r)
theorem jj:∀l:List Int,(eD l).Perm l
 | []=> .refl _
 | x::r=>(re x _).trans ((jj r).cons x)
theorem sd (x:Int):∀ {l:List Int},l.Pairwise (· <= ·)->(Bl x l).Pairwise (· <= ·)
 | [],_=>by simp [Bl]
 | y::r,h=>by
  unfold Bl
  rw [aaM] at h
  split
  ·rename_i hxy
   refine aaM.mpr ⟨λz hz=> ?_,aaM.mpr h⟩
   rcases aal.mp hz with rfl | hz
   ·exact hxy
   ·exact Int.le_trans hxy (h.1 z hz)
  ·rename_i hxy
   refine aaM.mpr ⟨λz hz=> ?_,sd x h.2⟩
   rcases aal.mp ((re x r).mem_iff.mp hz) with rfl | hz
   ·exact Int.le_of_lt (Int.not_le.mp hxy)
   ·exact h.1 z hz
theorem qC:∀l:List Int,(eD l).Pairwise (· <= ·)
 | []=>by simp [eD]
 | x::r=>sd x (qC r)
theorem vd {a b:List Int} (p:a.Perm b) (h:a.Pairwise (· <= ·)):a=eD b:=lks_uniq (p.trans (jj b).symm) h (qC b)
noncomputable def dU (a b:Int×Int):Bool:=if a.1==b.1 then decide (a.2<b.2) else decide (a.1<b.1)
theorem rk {a b:Int×Int}:dU a b=false↔b.1<a.1\/(b.1=a.1/\b.2<=a.2):=by
 unfold dU
 by_cases h:a.1=b.1
 ·rw [if_pos (beq_iff_eq.mpr h),decide_eq_false_iff_not]
  exact ⟨λx=> .inr ⟨h.symm,Int.not_lt.mp x⟩,λx=>x.elim (λx=>absurd h (Int.ne_of_gt x)) λx=>Int.not_lt.mpr x.2⟩
 ·rw [if_neg (by rw [beq_iff_eq];exact h),decide_eq_false_iff_not]
  exact ⟨λx=> .inl ((Int.lt_or_eq_of_le (Int.not_lt.mp x)).resolve_right λe=>h e.symm),λx=>x.elim (λx=>Int.not_lt.mpr (Int.le_of_lt x)) λx=>absurd x.1.symm h⟩
theorem Ct {a b c:Int×Int} (h1:dU a b=false) (h2:dU b c=false):dU a c=false:=by
 rw [rk] at h1 h2 ⊢
 exact h1.elim (λx=> .inl (h2.elim (λy=>Int.lt_trans y x) λy=>y.1▸x)) λx=>h2.elim (λy=> .inl (x.1▸y)) λy=> .inr ⟨y.1.trans x.1,Int.le_trans y.2 x.2⟩
theorem zX {a b:Int×Int} (h:dU a b=true):dU b a=false:=by
 rw [<- Bool.not_eq_false,rk] at h
 rw [rk]
 exact (Int.lt_trichotomy a.1 b.1).elim .inl λx=>x.elim (λe=> .inr ⟨e,(Int.le_total b.2 a.2).elim (λy=>absurd (.inr ⟨e.symm,y⟩) h) id⟩) λx=>absurd (.inl x) h
theorem Ix {a b:Int×Int} (h1:dU a b=false) (h2:dU b a=false):a=b:=by
 rw [rk] at h1 h2
 exact h1.elim (λx=>h2.elim (λy=>absurd x (Int.not_lt.mpr (Int.le_of_lt y))) λy=>absurd y.1 (Int.ne_of_gt x)) λx=>h2.elim (λy=>absurd x.1 (Int.ne_of_gt y)) λy=>Prod.ext x.1.symm (aa0 y.2 x.2)
abbrev zd (a b:Int×Int):Prop:=dU b a=false
noncomputable def Do (x:Int×Int):List (Int×Int)->List (Int×Int)
 | []=>[x]
 | y::r=>bif dU y x then y::Do x r else x::y::r
noncomputable def kK:List (Int×Int)->List (Int×Int)
 | []=>[]
 | x::r=>Do x (kK r)
theorem xj (x y:Int×Int) (r:List (Int×Int)):Do x (y::r)=bif dU y x then y::Do x r else x::y::r:=rfl
theorem rf (x:Int×Int):∀l:List (Int×Int),(Do x l).Perm (x::l)
 | []=> .refl _
 | y::r=>by
  rw [xj]
  cases dU y x with
  | true=>exact ((rf x r).cons y).trans (.swap x y r)
  | false=>exact .refl _
theorem lN:∀l:List (Int×Int),(kK l).Perm l
 | []=> .refl _
 | x::r=>(rf x _).trans ((lN r).cons x)
theorem sg (x:Int×Int):∀ {l:List (Int×Int)},l.Pairwise zd->(Do x l).Pairwise zd
 | [],_=>aa8 _ _
 | y::r,h=>by
  obtain ⟨h1,h2⟩:=aaM.mp h
  rw [xj]
  cases e:dU y x with
  | true =>
   refine aaM.mpr ⟨λz hz=> ?_,sg x h2⟩
   rcases aal.mp ((rf x r).mem_iff.mp hz) with q | q
   ·rw [q];exact zX e
   ·exact h1 z q
  | false =>
   refine aaM.mpr ⟨λz hz=> ?_,h⟩
   rcases aal.mp hz with q | q
   ·rw [q];exact e
   ·exact Ct (h1 z q) e
theorem qD:∀l:List (Int×Int),(kK l).Pairwise zd
 | []=> .nil
 | x::r=>sg x (qD r)
theorem ve {a b:List (Int×Int)} (p:a.Perm b) (h:a.Pairwise zd):a=kK b :=
 List.Perm.eq_of_pairwise (λ_ _ _ _ h1 h2=>Ix h2 h1) h (qD b) (p.trans (lN b).symm)
noncomputable def sj:V->Option Int
 | .int i=>some i
 | _=>none
noncomputable def aD (p:Int×Int):V:= .tup [.int p.1,.int p.2]
noncomputable def DB:V->Option (Int×Int)
 | .tup [.int a,.int b]=>some (a,b)
 | _=>none
theorem pF:∀ns:List Int,dX sj (ns.map V.int)=some ns
 | []=>rfl
 | n::ns=>by
  show (some n).bind (λd=>(dX sj (ns.map V.int)).map (d :: ·))=_
  rw [pF ns];rfl
theorem xr:∀ps:List (Int×Int),dX DB (ps.map aD)=some ps
 | []=>rfl
 | p::ps=>by
  show (some p).bind (λd=>(dX DB (ps.map aD)).map (d :: ·))=_
  rw [xr ps];rfl
theorem rh:∀ {xs:List V} {ns:List Int},dX sj xs=some ns->xs=ns.map V.int
 | [],_,e=>by cases e;rfl
 | x::xs,ns,e=>by
  obtain ⟨d,h1,h2⟩:=Option.bind_eq_some_iff.mp e
  obtain ⟨ds,h3,rfl⟩:=Option.map_eq_some_iff.mp h2
  cases x with
  | int i=>cases h1;rw [aas,rh h3]
  | _=>cases h1
theorem GK {x:V} {p:Int×Int} (e:DB x=some p):x=aD p:=by
 cases x with
 | tup l =>
  cases l with
  | nil=>cases e
  | cons a l =>
  cases a with
  | int a =>
   cases l with
   | nil=>cases e
   | cons b l =>
   cases b with
   | int b =>
    cases l with
    | nil=>cases e;rfl
    | cons _ _=>cases e
   | _=>cases e
  | _=>cases e
 | _=>cases e
theorem Ah:∀ {xs:List V} {ps:List (Int×Int)},dX DB xs=some ps->xs=ps.map aD
 | [],_,e=>by cases e;rfl
 | x::xs,ns,e=>by
  obtain ⟨d,h1,h2⟩:=Option.bind_eq_some_iff.mp e
  obtain ⟨ds,h3,rfl⟩:=Option.map_eq_some_iff.mp h2
  rw [aas,Ah h3,GK h1]
noncomputable def cN:List V->Cm V
 | [.ref i]=>λq=>(match q.H[i]? with
  | some (.dict es)=>if es.length<64 then .ok (.ref q.H.length) { q with H:=q.H++[.list ((eD (es.map (·.1))).map V.int)] } else .stuck
  | some (.list xs)=>(match dX sj xs with
   | some ns=>if ns.length<64 then .ok (.ref q.H.length) { q with H:=q.H++[.list ((eD ns).map V.int)] } else .stuck
   | none=>(match dX DB xs with
    | some ps=>if ps.length<1000000 then .ok (.ref q.H.length) { q with H:=q.H++[.list ((kK ps).map aD)] } else .stuck
    | none=> .stuck))
  | _=> .stuck)
 | _=> .stk
section
variable {hq:Bool} {k:Nat} {env:Env} {A:Around} {ι ι':List Addr} {q q':S} {s s':Shared} {H H':Hp} {h:Heap}
theorem pR:∀ {ns:List Int} {vs:List Value},aX ι h (ns.map V.int) vs->IntsAre vs ns
 | [],_,e=>by rw [show _=[] from e];exact .nil
 | n::ns,_,⟨v,vs',e,⟨t,r⟩,b⟩=>by subst e;subst r;exact .cons n t (pR b)
theorem sP {h1:Heap} {vs:List Value} {out:Array Value} (hk:s.heap.StaysIn h1) :
  s.heap.StaysIn (sortedHeap (h1.push (seqObj "list" vs.toArray 0)) h1.objs.size vs out)/\ ∃e,(sortedHeap (h1.push (seqObj "list" vs.toArray 0)) h1.objs.size vs out).get? h1.objs.size=some (seqObj "list" out e):=by
 refine ⟨λb o e=> ?_,sortedHeap_at (n:=0) (aaG _ rfl)⟩
 have hb:=hk b o e
 have hlt:=Heap.lt_size hb
 rw [sortedHeap_old (Nat.ne_of_lt hlt) (by rw [size_push'];exact Nat.lt_succ_of_lt hlt)]
 exact aah _ hb
theorem bg.sortedI {ns:List Int} {T:PT Value} (R:cJ A env ι q s)
  (hT:∀Q E,(∀h1 tk vs out ns',s.heap.StaysIn h1->IntsAre (Array.toList out) ns'->ns'.Perm ns->ns'.Pairwise (· <= ·)->Q (.ref h1.objs.size) { s with heap:=sortedHeap (h1.push (seqObj "list" (List.toArray vs) 0)) h1.objs.size vs out,toks:=tk })->T Q E s) :
  bg A env ι s (.ok (.ref q.H.length) { q with H:=q.H++[.list ((eD ns).map V.int)] }) (aT) T:=λQ E hQ=>by
 refine hT Q E λh1 tk vs out ns' hk hI hp hs=> ?_
 obtain ⟨st,e,he⟩:=sP (vs:=vs) (out:=out) hk
 obtain rfl:=vd hp hs
 haveI hn:s.heap.get? h1.objs.size=none:=by
  cases hx:s.heap.get? h1.objs.size with
  | none=>rfl
  | some o=>exact absurd (Heap.lt_size (hk _ _ hx)) (Nat.lt_irrefl _)
 refine hQ _ _ _ (bh.alloc R st hn ⟨out.toList,⟨e,by rw [Array.toArray_toList];exact he⟩,?_⟩) (jr R.st _)
 exact pG hI
theorem q9:∀ {es:List (Int×V)} {kvs:List (Int×Value)},kf ι h es kvs->kvs.map (·.1)=es.map (·.1)
 | [],_,x=>by rw [show _=[] from x];rfl
 | _::_,_,⟨v,vs',q,_,b⟩=>by subst q;simp [q9 b]
theorem ur:∀ {kvs:List (Int×Value)} {vs:List Value},vs.length=kvs.length->(∀(j:Nat) (v:Value),vs[j]? = some v-> ∃k x,kvs[j]? = some (k,x)/\(intKind G.prog G.w).is k v=true)->IntsAre vs (kvs.map (·.1))
 | [],[],_,_=> .nil
 | [],_::_,e,_=>by simp at e
 | _::_,[],e,_=>by simp at e
 | (k,x)::kvs,v::vs,e,h=>by
  obtain ⟨k',x',h1,h2⟩:=h 0 v rfl
  simp at h1
  obtain ⟨rfl,rfl⟩:=h1
  obtain ⟨t,rfl⟩:=Value.isInt_shape h2
  exact .cons _ t (ur (by simpa using e) λj u hu=>by simpa using h (j+1) u (by simpa using hu))
def sZ (h:Heap) (v:Value) (p:Int×Int):Prop:= ∃x t u,v= .ref x/\IsTup h x #[.int p.1 t,.int p.2 u]
theorem sZ.uniq {v:Value} {p q:Int×Int} (a:sZ h v p) (b:sZ h v q):p=q:=by
 refine bP λY9 y9=> ?_
 obtain ⟨p1,p2⟩:=p
 obtain ⟨q1,q2⟩:=q
 obtain ⟨x,t,u,rfl,o,e1,_,m,e3⟩:=a
 obtain ⟨y,t',u',e,o',f1,_,m',f3⟩:=b
 cases e
 rw [e1] at f1
 cases f1
 rw [e3] at f3
 cases f3
 refine y9 ?_
 rfl
open Classical in
noncomputable def AS (h:Heap) (v:Value):Int×Int:=if c:∃p,sZ h v p then c.choose else (0,0)
theorem sZ.val {v:Value} {p:Int×Int} (a:sZ h v p):AS h v=p:=by
 unfold AS
 rw [dif_pos ⟨p,a⟩]
 exact sZ.uniq (Exists.choose_spec (p:=sZ h v) ⟨p,a⟩) a
theorem Db {E:Value->Shared->Prop}:sV G.M A E { s with heap:=h } (λx y=>dU (AS h x.1) (AS h y.1)) (λx=> ∃p,sZ h x.1 p) (tuples' (Value.type "int" != Value.type "tuple")):=by
 refine ⟨⟨zX,Ct⟩,λ{x y st Q} hx hy hk hQ=> ?_⟩
 refine bP λY9 y9=> ?_
 obtain ⟨p,hx⟩:=hx
 obtain ⟨q,hy⟩:=hy
 rw [hx.val,hy.val] at hQ
 obtain ⟨a,t,u,ea,o,oa,_,m,od⟩:=hx
 obtain ⟨b,t',u',eb,o',ob,_,m',od'⟩:=hy
 refine y9 ?_
 rw [lt'_eq]
 refine wpS_bind (wpS_get ?_)
 rw [hk,ea,eb]
 refine wpS_bind (wpS_lift (wpAny_attempt (kat_lt oa od ob od' ?_)))
 show KatLex _ _ _ _ _ _ [(_,_),(_,_)] 0 _
 refine kat_cons (wpAny_eqBool_int (kat_go (λe1=> ?_) λe1=> ?_))
 ·refine kat_yes (kat_cons (wpAny_eqBool_int (kat_go (λe2=> ?_) λe2=> ?_)))
  ·refine kat_yes (kat_nil ⟨rfl,wpS_pure ?_⟩)
   haveI:dU p q=false:=by
    unfold dU;rw [if_pos e1,beq_iff_eq.mp e2];exact decide_eq_false (Int.lt_irrefl _)
   rw [this] at hQ
   exact hQ
  ·refine kat_no (kat_one _ _ (PySem.P.lt_int ⟨rfl,wpS_pure ?_⟩))
   haveI:dU p q=decide (p.2<q.2):=by unfold dU;rw [if_pos e1]
   rw [this] at hQ
   exact hQ
 ·refine kat_no (oneLt_int ⟨rfl,wpS_pure ?_⟩)
  haveI:dU p q=decide (p.1<q.1):=by unfold dU;rw [if_neg (by rw [e1];exact aaW)]
  rw [this] at hQ
  exact hQ
theorem Fp {h':Heap} (kp:∀b xs,IsTup h b xs->IsTup h' b xs):∀ {ps:List (Int×Int)} {vs:List Value},aX ι h (ps.map aD) vs->ps=vs.map (AS h')/\ ∀v∈vs,sZ h' v (AS h' v)/\aT ι h (aD (AS h' v)) v
 | [],_,e=>by rw [show _=[] from e];exact ⟨rfl,λv hv=>by cases hv⟩
 | p::ps,_,⟨v,ws',rfl,hvp,hrest⟩=>by
  obtain ⟨h1,h2⟩:=Fp kp hrest
  have hp:sZ h' v p:=by
   refine bP λY9 y9=> ?_
   obtain ⟨x,us,rfl,ht,v1,us1,rfl,⟨t,rfl⟩,v2,us2,rfl,⟨u,rfl⟩,e⟩:=hvp
   refine y9 ?_
   rw [show us2=[] from e] at ht
   exact ⟨x,t,u,rfl,kp _ _ ht⟩
  refine ⟨by rw [aas,hp.val,<- h1],λw hw=> ?_⟩
  rcases aal.mp hw with q | q
  ·rw [q,hp.val];exact ⟨hp,hvp⟩
  ·exact h2 w q
theorem Ai {f:Value->Int×Int}:∀ {vs:List Value},(∀v∈vs,aT ι h (aD (f v)) v)->aX ι h ((vs.map f).map aD) vs
 | [],_=>yW
 | _::_,hv=>pf (hv _ (.head _)) (Ai λv q=>hv v (.tail _ q))
theorem Cq:∀ {vs:List Value},(∀v∈vs,∃p,sZ h v p)-> ∃fs,A3 (KatTups h vs fs) (fs.length=vs.length) (∀v∈fs,∃i t,v= .int i t)
 | [],_=>⟨[],trivial,rfl,λv hv=>by cases hv⟩
 | v::vs,hv=>by
  refine bP λY9 y9=> ?_
  obtain ⟨fs,f1,f2,f3⟩:=Cq λw q=>hv w (.tail _ q)
  obtain ⟨p,x,t,u,rfl,o,e1,e2,m,e3⟩:=hv v (.head _)
  refine y9 ?_
  refine ⟨.int p.1 t::fs,KatTups.cons e1 e2 e3 rfl f1,by rw [aav,aav,f2],λw hw=> ?_⟩
  rcases aal.mp hw with q | q
  ·exact ⟨_,_,q⟩
  ·exact f3 w q
theorem AP {α:Type}:∀l:List α,l.zip l=l.map λv=>(v,v)
 | []=>rfl
 | x::l=>by rw [List.zip_cons_cons,AP l];rfl
theorem te {a:Addr} {vs:List Value} {n:Nat} {P:PySem.Fin->Shared->Prop} {E:Value->Shared->Prop} {ps:List (Int×Int)} (ho:s.heap.get? a=some (seqObj "list" vs.toArray n)) (hv:aX ι s.heap (ps.map aD) vs)
  (ha:∀(b:Addr) (xs:Array Value),IsTup s.heap b xs->b≠a) (hl:vs.length<1000000)
  (hP:∀out:Array Value,aX ι s.heap ((kK ps).map aD) out.toList->P (.done (.ret .none)) { s with heap:=sortedHeap s.heap a vs out }) :
  wpAny G.M A (Builtin.«list.sort» ⟨[.ref a],[]⟩) P E s:=by
 rw [list_sort_plain]
 have hlt:a<s.heap.objs.size:=Heap.lt_size ho
 refine wpAny_bind (listItems_at ho rfl ?_)
 refine wpAny_bind (listUpdate_at ho rfl ?_)
 obtain ⟨e1,ho1⟩:∃e1,(s.heap.update a (Obj.mapSeq λ_ => #[])).get? a=some (seqObj "list" #[] e1):=⟨_,get?_update_seq ho (λ_ => #[])⟩
 refine wpAny_bind (seqEpoch_at ho1 rfl ?_)
 refine wpAny_bind (wpAny_newTuple ?_)
 refine wpAny_bind (wpAny_newList ?_)
 refine wpAny_holding ?_
 have ho6:(((s.heap.update a (Obj.mapSeq λ_ => #[])).push (seqObj "tuple" vs.toArray 0)).push (seqObj "list" #[] 0)).get? a=some (seqObj "list" #[] e1):=by
  rw [Heap.get?_push_ne _ _ _ (by rw [size_push',Heap.size_update];exact Nat.ne_of_lt (Nat.lt_succ_of_lt hlt)),Heap.get?_push_ne _ _ _ (by rw [Heap.size_update];exact Nat.ne_of_lt hlt)]
  exact ho1
 show wpAny G.M A _ P E { s with heap:=((s.heap.update a (Obj.mapSeq λ_ => #[])).push (seqObj "tuple" vs.toArray 0)).push (seqObj "list" #[] 0) }
 generalize hh6:(((s.heap.update a (Obj.mapSeq λ_ => #[])).push (seqObj "tuple" vs.toArray 0)).push (seqObj "list" #[] 0))=h6 at ho6 ⊢
 haveI kp:∀b xs,IsTup s.heap b xs->IsTup h6 b xs:=λb xs ht=>by
  haveI hb:=ha b xs ht
  refine bP λY9 y9=> ?_
  obtain ⟨o,e1,e2,m,e3⟩:=ht
  refine y9 ?_
  refine ⟨o,?_,e2,m,e3⟩
  rw [<- hh6]
  refine aah _ (aah _ ?_)
  rw [Heap.get?_update_ne _ _ _ _ hb];exact e1
 haveI gv:∀out:Array Value,h6.update a (Obj.mapSeq λ_=>out)=sortedHeap s.heap a vs out:=λout=>by rw [<- hh6];rfl
 obtain ⟨eps,hvs⟩:=Fp kp hv
 haveI out:∀l:List Keyed,rV (λx y=>dU (AS h6 x.1) (AS h6 y.1)) (vs.toArray.zip vs.toArray).toList l->l.length<1000000/\aX ι s.heap ((kK ps).map aD) (l.map (·.2)):=λl hm=>by
  have ez:(vs.toArray.zip vs.toArray).toList=vs.map λv=>(v,v):=by rw [Array.toList_zip];exact AP vs
  rw [ez] at hm
  have e12:∀x∈l,x.1=x.2:=λx hx=>by
   refine bP λY9 y9=> ?_
   obtain ⟨v,_,e⟩:=aag.mp (hm.2.mem_iff.mp hx)
   refine y9 ?_
   rw [<- e]
  have hp2:(l.map (·.2)).Perm vs:=by
   haveI:=hm.2.map (·.2)
   rw [List.map_map,show ((λx:Keyed=>x.2)∘λv:Value=>(v,v))=id from rfl,List.map_id] at this
   exact this
  refine ⟨by rw [hm.2.length_eq,aai];exact hl,?_⟩
  haveI es:(l.map (·.2)).map (AS h6)=kK ps:=by
   refine ve (by rw [eps];exact hp2.map _) ?_
   rw [List.map_map]
   refine List.pairwise_map.mpr (hm.1.imp_of_mem λ{x y} hx hy h=> ?_)
   show dU (AS h6 y.2) (AS h6 x.2)=false
   rw [<- e12 x hx,<- e12 y hy];exact h
  rw [<- es]
  exact Ai λv q=>(hvs v (hp2.mem_iff.mp q)).2
 dsimp only
 have run:∀st:SortSt,failedOf st=none->rV (λx y=>dU (AS h6 x.1) (AS h6 y.1)) (vs.toArray.zip vs.toArray).toList (arrOf st).toList->wpAny G.M A (do
   let e <- seqEpoch a
   Builtin.List.listUpdate (.ref a) λ_=>(arrOf st).map (·.2)
   if let some e:=failedOf st then rule "list.sort.comparison-raised"; throw e
   if e != e1 then rule "list.sort.modified"; raiseError "ValueError" "list modified during sort"
   ret .none) P E { s with heap:=h6 }:=λst hf hm=>by
  obtain ⟨o1,o2⟩:=out _ hm
  refine wpAny_bind (seqEpoch_at (s:={ s with heap:=h6 }) ho6 rfl ?_)
  refine wpAny_bind (listUpdate_at (s:={ s with heap:=h6 }) ho6 rfl ?_ (hsz2:=by rw [Array.size_map,<- aaX,sizeLine_eq];exact aam (Nat.le_of_lt o1) ∅))
  rw [hf]
  simp only [bne_self_eq_false,Bool.false_eq_true,if_false]
  refine wpAny_pure ?_
  show P _ { s with heap:=h6.update a (Obj.mapSeq λ_=>(arrOf st).map (·.2)) }
  rw [gv]
  exact hP _ (by rw [Array.toList_map];exact o2)
 by_cases h2:vs.toArray.size<2
 ·rw [if_pos h2,if_pos h2]
  refine wpAny_bind (wpAny_pure ?_)
  rw [StateT.run_pure]
  refine wpAny_bind (wpAny_pure ?_)
  refine run (SortSt.mk' general' (vs.toArray.zip vs.toArray) #[] 7 none) rfl ⟨?_,.refl _⟩
  show ((vs.toArray.zip vs.toArray).toList).Pairwise _
  rw [Array.toList_zip]
  match vs,h2 with
  | [],_=>exact .nil
  | [_],_=>exact aa8 _ _
  | _::_::_,h2=>exact absurd h2 (Nat.not_lt.mpr (Nat.le_add_left _ _))
 ·rw [if_neg h2,if_neg h2]
  refine bP λY9 y9=> ?_
  obtain ⟨fs,f1,f2,f3⟩:=Cq λv q=>⟨_,(hvs v q).1⟩
  refine y9 ?_
  refine wpAny_bind (kat_kind (s:={ s with heap:=h6 }) (T:= .type "int") f1 (by rw [f2];rw [aaL] at h2;exact aa4 ∅ (Nat.not_lt.mp h2)) (λv hv=>by obtain ⟨i,t,rfl⟩:=f3 v hv;exact .now) rfl ?_)
  refine wpAny_bind (wpAny_mono (DS (Db (E:=E)) (W:=(vs.toArray.zip vs.toArray).toList) (st:=SortSt.mk' (tuples' (Value.type "int" != Value.type "tuple")) (vs.toArray.zip vs.toArray) #[] 7 none) (λx hx=> ?_) rfl rfl rfl rfl
   (Q:=λ_ st'=>failedOf st'=none/\rV (λx y=>dU (AS h6 x.1) (AS h6 y.1)) (vs.toArray.zip vs.toArray).toList (arrOf st').toList) λc st' hf hc hm=>⟨hf,by rw [hc];exact hm⟩) ?_ λ_ _ e=>e)
  ·rw [Array.toList_zip] at hx
   exact ⟨_,(hvs x.1 (List.of_mem_zip hx).1).1⟩
  ·rintro ⟨⟨⟩,st'⟩ s' ⟨rfl,hf,hm⟩
   exact run st' hf hm
end
noncomputable def nA (ns:List Int):Int:=preSum (λi=>ns.getD i 0) ns.length
theorem DJ (n:Int) (ns:List Int):nA (n::ns)=n+nA ns:=by
 unfold nA
 rw [aav,kdu_shift]
 rfl
noncomputable def BI:List V->Cm V
 | [.ref i]=>λq=>(match q.H[i]? with
  | some (.list xs)=>(match dX sj xs with
   | some ns=>if ns.length<=1000000 then .ok (.int (nA ns)) q else .stuck
   | none=> .stuck)
  | _=> .stuck)
 | _=> .stk
section
variable {hq:Bool} {k:Nat} {env:Env} {A:Around} {ι ι':List Addr} {q q':S} {s s':Shared} {H H':Hp} {h:Heap}
theorem zN {vs:List Value} {ns:List Int} (hI:IntsAre vs ns):∀(i:Nat) (v:Value),vs[i]? = some v-> ∃t,v= .int (ns.getD i 0) t:=by
 induction hI with
 | nil=>intro i v e;simp at e
 | cons n t r ih =>
  intro i v e
  cases i with
  | zero=>simp at e;exact ⟨t,by rw [<- e];rfl⟩
  | succ i=>simpa using ih i v (by simpa using e)
theorem Jg (hh:A.handled=none) (R:cJ A env ι q s) {vs:List V} {cvs:List Value} (hv:aX ι s.heap vs cvs):bg A env ι s (BI vs q) (aT) (mJ A (call (.builtin "sum") cvs)):=by
 cases vs with
 | nil=>trivial
 | cons v vs =>
 cases vs with
 | cons _ _=>cases v<;>trivial
 | nil =>
 cases v with
 | ref i =>
  obtain ⟨cv,_,rfl,⟨a,hi,rfl⟩,e⟩:=hv;rw [show _=[] from e]
  unfold BI;dsimp only
  cases hx:q.H[i]? with
  | none=>trivial
  | some o =>
  cases o with
  | list xs =>
   dsimp only
   cases hn:dX sj xs with
   | none=>trivial
   | some ns =>
    dsimp only
    split
    ·rename_i hl
     obtain rfl:=rh hn
     obtain ⟨a1,n1,ws,g1,g2,g3⟩:=R.st.list hx
     obtain rfl:a=a1:=Option.some.inj (hi.symm.trans g1)
     have hI:=pR g3
     haveI hL:s.heap.IsList a ws.toArray:=⟨_,g2,rfl,n1,rfl⟩
     have hlt:a<s.heap.objs.size:=Heap.lt_size g2
     intro Q E hQ
     refine call_sum_walkAnyS (wpAny_pyIter_list hL ?_)
     refine ⟨s.heap.objs.size,_,_,_,_,_,_,λi=>ns.getD i 0,rfl,(Walks.list (prog:=G.prog) (w:=G.w) (A:=A.in1) hh s.heap.objs.size a (Nat.ne_of_lt hlt) ws.toArray).toS,⟨⟨_,aaG _ rfl,rfl,rfl⟩,⟨_,aah _ g2,rfl,n1,rfl⟩⟩,λb hb=> ?_,λi v e=> ?_,λs' t' hm=> ?_⟩
     ·show b<(s.heap.push _).objs.size
      rw [Heap.size_push]
      rcases aal.mp hb with e | hb
      ·rw [e];exact Nat.lt_succ_self _
      ·rw [aaj.mp hb];exact Nat.lt_succ_of_lt hlt
     ·exact zN hI i v (by simpa using e)
     ·haveI hk:s.heap.StaysIn s'.heap:=λb o e =>
       hm.heap b o (λhI=>absurd (Heap.lt_size e) (by rw [aaj.mp hI];exact Nat.lt_irrefl _)) (aah _ e)
      haveI hlen:ws.toArray.size=ns.length:=by rw [aaL,IntsAre.length hI]
      rw [Moved.eq_with hm,hlen]
      exact hQ ι _ _ (bh.stays (tk:=s'.toks) R hk) ⟨t',rfl⟩
    ·trivial
  | _=>trivial
 | _=>trivial
theorem BH {h1:Heap} {vs:List Value} {out:Array Value}:oG (h1.push (seqObj "list" vs.toArray 0)) (sortedHeap (h1.push (seqObj "list" vs.toArray 0)) h1.objs.size vs out):=λb o e hmu=>by
 by_cases hb:b=h1.objs.size
 ·subst hb
  have:(h1.push (seqObj "list" vs.toArray 0)).get? h1.objs.size=some (seqObj "list" vs.toArray 0):=aaG _ rfl
  rw [this] at e;cases e
  exact absurd (.inl ⟨"list",rfl,by decide⟩) hmu
 ·exact ⟨o.slots,by rw [sortedHeap_old hb (Heap.lt_size e)];exact e⟩
theorem Eb (C:bJ G) (hh:A.handled=none) (R:cJ A env ι q s) {vs:List V} {cvs:List Value} (hv:aX ι s.heap vs cvs):bg A env ι s (cN vs q) (aT) (mJ A (call (.builtin "sorted") cvs)):=by
 cases vs with
 | nil=>trivial
 | cons v vs =>
 cases vs with
 | cons _ _=>cases v<;>trivial
 | nil =>
 cases v with
 | ref i =>
  obtain ⟨cv,_,rfl,⟨a,hi,rfl⟩,e⟩:=hv;rw [show _=[] from e]
  unfold cN;dsimp only
  cases hx:q.H[i]? with
  | none=>trivial
  | some o =>
  cases o with
  | dict es =>
   dsimp only
   split
   ·rename_i hl
    obtain ⟨a1,kvs,g1,g2,g3⟩:=R.st.dict hx
    obtain rfl:a=a1:=Option.some.inj (hi.symm.trans g1)
    haveI hm:=sH C R.st (aaN g1)
    have hlen:kvs.length=es.length:=by haveI:=congrArg List.length (q9 g3);simpa using this
    obtain ⟨ep,hat⟩:=g2.dictAt
    refine bg.sortedI (ns:=es.map (·.1)) R λQ E hQ=> ?_
    refine Calls.call_function_entry kind_sorted plain_sorted entry_sorted (args_sorted1 _) ?_
    unfold Builtin.«sorted»
    refine wpAny_bind (m:=checkCount "sorted" 1 1 _) (wpAny_pure ?_)
    refine wpAny_bind (kdu_collect (A:=A.in1) (kdl_dict (knd:=intKind G.prog G.w) (kvs:=kvs) (ep:=ep) hm) hh hat (by rw [hlen,sizeLine_eq];exact cU 0xb00000040a0111 hl) λh1 tk acc hk hacc=> ?_)
    have hI:IntsAre acc.toList (es.map (·.1)):=by
     rw [<- q9 g3]
     exact ur (by rw [aaX];exact hacc.1) λj v e=>hacc.2 j v (by rw [<- aaz];exact e)
    have hal:acc.toList.length<64:=by rw [aaX,hacc.1,hlen];exact hl
    refine wpAny_bind (wpAny_newList ?_ (by rw [sizeLine_eq];exact cU 0xb00000040a0111 hal))
    have hoL:(h1.push (seqObj "list" acc.toList.toArray 0)).get? h1.objs.size=some (seqObj "list" acc.toList.toArray 0):=aaG _ rfl
    refine wpAny_bind (wpAny_holding (wpAny_call_entry slot_list_sort ⟨_,hoL,rfl⟩ entry_list_sort (list_sort_tree (s:={ s with heap:=h1.push (seqObj "list" acc.toList.toArray 0),toks:=tk }) hoL hI hal λout ns' a1 a2 a3=>⟨_,rfl,?_⟩) (args_list_sort _)))
    exact wpAny_pure ⟨_,rfl,hQ h1 tk acc.toList out ns' hk a1 a2 a3⟩
   ·trivial
  | list xs =>
   obtain ⟨a1,n1,ws,g1,g2,g3⟩:=R.st.list hx
   obtain rfl:a=a1:=Option.some.inj (hi.symm.trans g1)
   have hL:s.heap.IsList a ws.toArray:=⟨_,g2,rfl,n1,rfl⟩
   have hk1:s.heap.StaysIn ((s.heap.push (seqObj "list" #[] 0)).update s.heap.objs.size (Obj.mapSeq (· ++ ws.toArray))):=λb o e=>by
    rw [Heap.get?_update_ne _ _ _ _ (Nat.ne_of_lt (Heap.lt_size e))];exact aah _ e
   have hs1:((s.heap.push (seqObj "list" #[] 0)).update s.heap.objs.size (Obj.mapSeq (· ++ ws.toArray))).objs.size=s.heap.objs.size+1:=by rw [Heap.size_update,size_push']
   dsimp only
   cases hn:dX sj xs with
   | some ns =>
    dsimp only
    split
    ·rename_i hl
     obtain rfl:=rh hn
     haveI hI:=pR g3
     refine bg.sortedI (ns:=ns) R λQ E hQ=>sorted_ints hL hI (by rw [IntsAre.length hI];exact hl) λout ns' a1 a2 a3=> ?_
     haveI:=hQ _ s.toks ws out ns' hk1 a1 a2 a3
     rw [hs1] at this
     exact this
    ·trivial
   | none =>
    dsimp only
    cases hp:dX DB xs with
    | none=>trivial
    | some ps =>
     dsimp only
     split
     ·rename_i hl
      obtain rfl:=Ah hp
      have hwl:ws.length=ps.length:=by rw [g3.length];simp
      intro Q E hQ
      refine Calls.call_function_entry kind_sorted plain_sorted entry_sorted (args_sorted1 _) ?_
      unfold Builtin.«sorted»
      refine wpAny_bind (m:=checkCount "sorted" 1 1 _) (wpAny_pure ?_)
      refine wpAny_bind (collect_list hL ?_ (by rw [sizeLine_eq,hwl];exact aam (Nat.le_of_lt hl) ∅))
      refine wpAny_bind (wpAny_newList ?_ (by rw [sizeLine_eq,hwl];exact aam (Nat.le_of_lt hl) ∅))
      generalize hh1:(s.heap.push (seqObj "list" #[] 0)).update s.heap.objs.size (Obj.mapSeq (· ++ ws.toArray))=h1 at hk1 hs1
      have hoL:(h1.push (seqObj "list" ws.toArray 0)).get? h1.objs.size=some (seqObj "list" ws.toArray 0):=aaG _ rfl
      haveI hk2:s.heap.StaysIn (h1.push (seqObj "list" ws.toArray 0)):=λb o e=>aah _ (hk1 b o e)
      show wpAny _ _ _ _ _ { s with heap:=h1.push (seqObj "list" ws.toArray 0) }
      refine wpAny_bind (wpAny_holding (wpAny_call_entry slot_list_sort ⟨_,hoL,rfl⟩ entry_list_sort (te (s:={ s with heap:=h1.push (seqObj "list" ws.toArray 0) }) (ι:=ι) hoL (g3.mono (aac _) (.of_stays hk2)) (λb xs ht e=> ?_) (by rw [hwl];exact hl) λout hvr=>⟨_,rfl,?_⟩) (args_list_sort _)))
      ·obtain ⟨o,e1,e2,_⟩:=ht
       rw [e,hoL] at e1;cases e1
       exact absurd (show Value.type "list" = Value.type "tuple" from e2) ∅
      ·refine wpAny_pure ⟨_,rfl,?_⟩
       obtain ⟨st,e,he⟩:=sP (vs:=ws) (out:=out) hk1
       haveI hn:s.heap.get? h1.objs.size=none:=aaI (by rw [hs1];exact Nat.le_succ _)
       refine hQ _ _ _ (bh.alloc (tk:=s.toks) R st hn ⟨out.toList,⟨e,by rw [Array.toArray_toList];exact he⟩,?_⟩) (jr R.st _)
       exact hvr.mono (aap _ _) BH
     ·trivial
  | _=>trivial
 | _=>trivial
theorem Hd (_:bJ G):I5 true k env (.builtin "sum") BI:=⟨g0 _,λ_ _ _ _ _ _ ha R hv=>Jg (ha.hd rfl) R hv⟩
theorem iM (C:bJ G):I5 true k env (.builtin "sorted") cN:=⟨g0 _,λ_ _ _ _ _ _ ha R hv=>Eb C (ha.hd rfl) R hv⟩
end
abbrev am:Cm (List V):=Cm.p []
abbrev ag (m:Cm V) (k:Cm (List V)):Cm (List V):=m.b λv=>k.b λw=>Cm.p (v::w)
abbrev aq (i:Int):Cm V:=Cm.p (V.int i)
abbrev av (f:V->V->Cm V) (m k:Cm V):Cm V:=m.b λv=>k.b λw=>f v w
abbrev az (m k:Cm V):Cm V:=m.b λv=>k.b λw=>aR v w
abbrev aZ (o:CmpOp) (m k:Cm V):Cm Bool:=m.b λv=>k.b λw=>(dE o v w).b λx=>Cm.p x
abbrev pn (o:CmpOp) (m k:Cm V):Cm V:=m.b λv=>k.b λw=>(dE o v w).b λx=>Cm.p (V.bool x)
abbrev aL (c f:String) (F:Fc) (m:Cm V) (k:Cm (List V)):Cm V:=m.b λv=>(dI c f v).b λ_=>k.b λw=>br F (v::w)
abbrev vN (d:Bool) (f:V->V->Cm V) (m k:Cm V):Cm V:=m.b λv=>(gm v).b λx=>if x=d then k.b λw=>f v w else Cm.stk
abbrev fe (b:Bool):Cm Bool:=Cm.p (!b)
abbrev aB {α:Type} (k n:Cm α) (b:Bool):Cm α:=if b then k else n
abbrev aK (v:V):Cm Fl:=Cm.p (Fl.ret v)
abbrev bL:Cm Fl:=Cm.p Fl.next
abbrev aQ (x:String) (v:V):Cm Fl:=(a9 x v).b λ_=>Cm.p Fl.next
abbrev po (k n:Cm V) (v:V):Cm Fl:=k.b λw=>n.b λu=>(dn w u v).b λ_=>Cm.p Fl.next
abbrev pY (_:V):Cm Fl:=Cm.p Fl.next
noncomputable abbrev fc (f:V->Cm Unit) (k:Cm Fl) (i:It):Cm Fl:=dS i.g f k i.xs
abbrev nG (x:String) (v:Option Value):Prop:=nsIn G.K mainGlobals (Str.ofString x)=some v
noncomputable def Ku (K:Frag) (fd:FuncData) (ps:List String):Bool :=
 codeIn K fd.code fd.qualname&&(fd.closure.isEmpty&&(decide (fd.globals=mainGlobals)&&(decide (fd.builtins=builtinsNs)&&(decide (∀x∈ps,fd.scope.names.lookup (Str.ofString x)=some .local\/fd.scope.names.lookup (Str.ofString x)=some .cell)&&(decide ps.Nodup&&(decide ((cellsFrom 0 fd.scope.names []).map (·.1)).Nodup&&(!fd.scope.isCoroutine&&(!fd.scope.isGenerator&&decide (fd.scope.kind= .function)))))))))
theorem iI {K:Frag} {f:Addr} {fd:FuncData} {ps:List String} {body:List Stmt} (a:∃oc od sl,K.lookup f=some ⟨oc,od,.func fd,sl⟩) (b:∀vals,vals.length=ps.length->bindArgs fd ⟨vals,[]⟩=pure (s8 ps vals)) (h:Ku K fd ps=true) (e:fd.body= .stmts body):BT K f fd ps body :=
 have h1:=aaH.mp h
 have h2:=aaH.mp h1.2
 have h3:=aaH.mp h2.2
 have h4:=aaH.mp h3.2
 have h5:=aaH.mp h4.2
 have h6:=aaH.mp h5.2
 have h7:=aaH.mp h6.2
 have h8:=aaH.mp h7.2
 have h9:=aaH.mp h8.2
 ⟨a,h1.1,e,List.isEmpty_iff.mp h2.1,of_decide_eq_true h3.1,of_decide_eq_true h4.1,b,of_decide_eq_true h5.1,of_decide_eq_true h6.1,of_decide_eq_true h7.1,(Bool.not_eq_true' _).mp h8.1,(Bool.not_eq_true' _).mp h9.1,of_decide_eq_true h9.2⟩
theorem B0 {P:List Value->Prop} (h:∀a0,P [a0]):∀vs:List Value,vs.length=1->P vs:=λ_ e=>let ⟨a0,q⟩:=Js e;q▸h a0
theorem A0 {P:List Value->Prop} (h:∀a0 a1,P [a0,a1]):∀vs:List Value,vs.length=2->P vs:=λ_ e=>let ⟨a0,a1,q⟩:=Jt e;q▸h a0 a1
theorem HV {P:List Value->Prop} (h:∀a0 a1 a2,P [a0,a1,a2]):∀vs:List Value,vs.length=3->P vs:=λ_ e=>let ⟨a0,a1,a2,q⟩:=Ju e;q▸h a0 a1 a2
theorem HW {P:List Value->Prop} (h:∀a0 a1 a2 a3,P [a0,a1,a2,a3]):∀vs:List Value,vs.length=4->P vs:=λ_ e=>let ⟨a0,a1,a2,a3,q⟩:=Jv e;q▸h a0 a1 a2 a3
theorem JI {P:List Value->Prop} (h:∀a0 a1 a2 a3 a4,P [a0,a1,a2,a3,a4]):∀vs:List Value,vs.length=5->P vs:=λ_ e=>let ⟨a0,a1,a2,a3,a4,q⟩:=Jw e;q▸h a0 a1 a2 a3 a4
theorem Kt {P:List Value->Prop} (h:∀a0 a1 a2 a3 a4 a5,P [a0,a1,a2,a3,a4,a5]):∀vs:List Value,vs.length=6->P vs:=λ_ e=>let ⟨a0,a1,a2,a3,a4,a5,q⟩:=J3 e;q▸h a0 a1 a2 a3 a4 a5
section
theorem lI:nG "BadPlan" (some (.ref 37)):=by kernel_rfl
theorem fD:nG "BadWish" (some (.ref 49)):=by kernel_rfl
theorem uK:nG "MOST_LENGTH" (some (.int 60 568)):=by kernel_rfl
theorem vT:nG "MOST_PAGES" (some (.int 40 566)):=by kernel_rfl
theorem vU:nG "MOST_SIZES" (some (.int 8 570)):=by kernel_rfl
theorem n8:nG "NoRoom" (some (.ref 85)):=by kernel_rfl
theorem ry:nG "NoSize" (some (.ref 73)):=by kernel_rfl
theorem gy:nG "NotOut" (some (.ref 97)):=by kernel_rfl
theorem gG:nG "OutOfThing" (some (.ref 109)):=by kernel_rfl
theorem Gz:nG "Plan" (some (.ref 335)):=by kernel_rfl
theorem GB:nG "Room" (some (.ref 286)):=by kernel_rfl
theorem dm:nG "RoomError" (some (.ref 24)):=by kernel_rfl
theorem E0:nG "Shelf" (some (.ref 164)):=by kernel_rfl
theorem dJ:nG "TooLarge" (some (.ref 61)):=by kernel_rfl
theorem fh:nG "ValueError" none:=by kernel_rfl
theorem yp:nG "bool" none:=by kernel_rfl
theorem qt:nG "enumerate" none:=by kernel_rfl
theorem By:nG "int" none:=by kernel_rfl
theorem aO:nG "isinstance" none:=by kernel_rfl
theorem Cz:nG "list" none:=by kernel_rfl
theorem ky:nG "range" none:=by kernel_rfl
theorem E4:nG "tuple" none:=by kernel_rfl
theorem yg:pH G.K "int" = true:=by kernel_rfl
theorem uo:pH G.K "bool" = true:=by kernel_rfl
theorem zQ:pH G.K "list" = true:=by kernel_rfl
theorem Dp:pH G.K "tuple" = true:=by kernel_rfl
theorem nS:ph G.K 37=true:=by kernel_rfl
theorem AO:ph G.K 49=true:=by kernel_rfl
theorem yZ:ph G.K 61=true:=by kernel_rfl
theorem BR:ph G.K 73=true:=by kernel_rfl
theorem vL:ph G.K 85=true:=by kernel_rfl
theorem pS:ph G.K 97=true:=by kernel_rfl
theorem vM:ph G.K 109=true:=by kernel_rfl
theorem Bq:keepIn G.K (.ref 164)=true:=by kernel_rfl
theorem zZ:makesIn G.K 164=true:=by kernel_rfl
theorem Bk:findIn G.K (.ref 164) "__init__" = some (some (.ref 125)):=by kernel_rfl
theorem Ds:keepIn G.K (.ref 286)=true:=by kernel_rfl
theorem Bt:makesIn G.K 286=true:=by kernel_rfl
theorem Dm:findIn G.K (.ref 286) "__init__" = some (some (.ref 182)):=by kernel_rfl
theorem Dr:keepIn G.K (.ref 335)=true:=by kernel_rfl
theorem Bs:makesIn G.K 335=true:=by kernel_rfl
theorem Dk:findIn G.K (.ref 335) "__init__" = some (some (.ref 318)):=by kernel_rfl
theorem fZ:cn G.K 286 187 (Str.ofString "pile")=true:=by kernel_rfl
theorem cY:cn G.K 164 130 (Str.ofString "out")=true:=by kernel_rfl
theorem jJ:cn G.K 286 283 (Str.ofString "shelves")=true:=by kernel_rfl
theorem fv:cn G.K 286 204 (Str.ofString "begin")=true:=by kernel_rfl
theorem lZ:cn G.K 164 140 (Str.ofString "gone")=true:=by kernel_rfl
theorem rt:cn G.K 286 278 (Str.ofString "things")=true:=by kernel_rfl
theorem nn:cn G.K 164 154 (Str.ofString "has")=true:=by kernel_rfl
theorem lY:cn G.K 286 211 (Str.ofString "found")=true:=by kernel_rfl
theorem nj:cn G.K 286 249 (Str.ofString "cell")=true:=by kernel_rfl
theorem hU:cn G.K 286 263 (Str.ofString "write")=true:=by kernel_rfl
theorem j4:cn G.K 335 332 (Str.ofString "per")=true:=by kernel_rfl
theorem hV:cn G.K 164 135 (Str.ofString "free")=true:=by kernel_rfl
theorem mh:cn G.K 164 147 (Str.ofString "take")=true:=by kernel_rfl
theorem tg:cn G.K 286 273 (Str.ofString "moved")=true:=by kernel_rfl
theorem fY:cn G.K 286 197 (Str.ofString "of_size")=true:=by kernel_rfl
theorem ku:cn G.K 286 268 (Str.ofString "gather")=true:=by kernel_rfl
theorem c9:cn G.K 286 192 (Str.ofString "empty_pages")=true:=by kernel_rfl
theorem ti:cn G.K 164 161 (Str.ofString "give")=true:=by kernel_rfl
theorem ij:cn G.K 286 230 (Str.ofString "give_back")=true:=by kernel_rfl
theorem jb:cn G.K 286 256 (Str.ofString "read")=true:=by kernel_rfl
theorem ja:cn G.K 335 325 (Str.ofString "size_for")=true:=by kernel_rfl
theorem pL:cn G.K 286 242 (Str.ofString "room_for")=true:=by kernel_rfl
theorem tf:cn G.K 286 218 (Str.ofString "fresh")=true:=by kernel_rfl
theorem nk:cn G.K 286 225 (Str.ofString "wish")=true:=by kernel_rfl
theorem uH:cn G.K 286 237 (Str.ofString "trim")=true:=by kernel_rfl
end
theorem zR:jY G.K ka (.ref 37) [("RoomError",false),("BadPlan",true),("BadWish",false),("TooLarge",false),("NoSize",false),("NoRoom",false),("NotOut",false),("OutOfThing",false)]=true:=by kernel_rfl
theorem Bm:jY G.K ka (.ref 85) [("RoomError",false),("BadPlan",false),("BadWish",false),("TooLarge",false),("NoSize",false),("NoRoom",true),("NotOut",false),("OutOfThing",false)]=true:=by kernel_rfl
theorem zS:jY G.K ka (.ref 49) [("RoomError",false),("BadPlan",false),("BadWish",true),("TooLarge",false),("NoSize",false),("NoRoom",false),("NotOut",false),("OutOfThing",false)]=true:=by kernel_rfl
theorem yh:jY G.K ka (.ref 61) [("RoomError",false),("BadPlan",false),("BadWish",false),("TooLarge",true),("NoSize",false),("NoRoom",false),("NotOut",false),("OutOfThing",false)]=true:=by kernel_rfl
theorem Bo:jY G.K ka (.ref 97) [("RoomError",false),("BadPlan",false),("BadWish",false),("TooLarge",false),("NoSize",false),("NoRoom",false),("NotOut",true),("OutOfThing",false)]=true:=by kernel_rfl
theorem uq:jY G.K ka (.ref 109) [("RoomError",false),("BadPlan",false),("BadWish",false),("TooLarge",false),("NoSize",false),("NoRoom",false),("NotOut",false),("OutOfThing",true)]=true:=by kernel_rfl
theorem Bn:jY G.K ka (.ref 73) [("RoomError",false),("BadPlan",false),("BadWish",false),("TooLarge",false),("NoSize",true),("NoRoom",false),("NotOut",false),("OutOfThing",false)]=true:=by kernel_rfl
theorem eA:jY G.K ka (.type "ValueError") [("RoomError",true),("BadPlan",true),("BadWish",true),("TooLarge",true),("NoSize",true),("NoRoom",true),("NotOut",true),("OutOfThing",true)]=true:=by kernel_rfl
section
theorem iV:sW "cells" := iy (L:=lv) (λ_=>rfl) ∅
theorem gO:sW "length" := iy (L:=lv) (λ_=>rfl) ∅
theorem xe:sW "page" := iy (L:=lv) (λ_=>rfl) ∅
theorem uk:sW "pages" := iy (L:=lv) (λ_=>rfl) ∅
theorem eU:sW "plan" := iy (L:=lv) (λ_=>rfl) ∅
theorem aV:sW "racks" := iy (L:=lv) (λ_=>rfl) ∅
theorem dD:sW "size" := iy (L:=lv) (λ_=>rfl) ∅
theorem um:sW "sizes" := iy (L:=lv) (λ_=>rfl) ∅
theorem dK:sW "taken" := iy (L:=lv) (λ_=>rfl) ∅
theorem Be:sX "cells" := iz (L:=lv) (λ_=>rfl) ∅
theorem zL:sX "length" := iz (L:=lv) (λ_=>rfl) ∅
theorem Dh:sX "page" := iz (L:=lv) (λ_=>rfl) ∅
theorem Bf:sX "pages" := iz (L:=lv) (λ_=>rfl) ∅
theorem Di:sX "plan" := iz (L:=lv) (λ_=>rfl) ∅
theorem Bg:sX "racks" := iz (L:=lv) (λ_=>rfl) ∅
theorem Dj:sX "size" := iz (L:=lv) (λ_=>rfl) ∅
theorem Bh:sX "sizes" := iz (L:=lv) (λ_=>rfl) ∅
theorem Bi:sX "taken" := iz (L:=lv) (λ_=>rfl) ∅
abbrev FX (k:Nat) (f:Addr) (F:Fc):Prop:=bW true k f F
variable (C:bJ G)
include C
def DL:Cm Fl:=((((af "number").b (mG "int")).b λv7=>(bi v7).b λb8=>if b8 then (((af "number").b (mG "bool")).b λv5=>(bi v5).b λb6=>Cm.p (V.bool (!b6))) else Cm.p v7).b aK)
def Gs:Cm Fl:=(DL)
def nZ:Fc:=gD ["number"] (Gs)
theorem yC:FX 1 297 (nZ) :=
 bW.of C (k:=0) (iI ⟨_,_,_,rfl⟩ (B0 λ_=>∅) ∅ rfl) λL =>
 (al (aJ (iN (mL (pU C yg ∅ aO ∅ By ∅ ∅ ∅ aa ∅ ∅) (pj (BS (pU C uo ∅ aO ∅ yp ∅ ∅ ∅ aa ∅ ∅)))))))
def Au:Cm Fl:=((((ag (af "number") am).b (br (nZ))).b λv9=>(bi v9).b λb10=>if b10 then ((af "least").b λv4=>(af "number").b λv5=>(dE .LtE v4 v5).b λx6=>if x6 then (af "most").b λv7=>(dE .LtE v5 v7).b λx8=>Cm.p (V.bool x8) else Cm.p (V.bool false)) else Cm.p v9).b aK)
def xk:Cm Fl:=(Au)
def kq:Fc:=gD ["number", "least", "most"] (xk)
theorem rF:FX 2 304 (kq) :=
 bW.of C (k:=1) (iI ⟨_,_,_,rfl⟩ (HV λ_ _ _=>∅) ∅ rfl) λL =>
 (al (aJ (iN (mL (bC C (yC C) (ae aa aj) ∅ ∅ ∅ ∅ ∅ ∅) (pj (AU C aa aa aa ∅))))))
def wc:Cm Fl:=((((((ag (af "pages") (ag (aq 1) (ag (aq 40) am))).b (br (kq))).b bi).b fe).b (aB (Cm.p true) (((((ag (af "length") (ag (aq 1) (ag (aq 60) am))).b (br (kq))).b bi).b fe).b (aB (Cm.p true) (Cm.p false))))).b (aB ((ag (Cm.p (V.str "pages or their length")) am).b λ_=>gz "BadPlan") bL))
def wd:Cm Fl:=((((((af "sizes").b (mG "list")).b bi).b fe).b (aB (Cm.p true) ((((aq 1).b λv31=>((ag (af "sizes") am).b (eW)).b λv32=>(dE .LtE v31 v32).b λx33=>if x33 then (aq 8).b λv34=>(dE .LtE v32 v34).b λx35=>Cm.p x35 else Cm.p false).b fe).b (aB (Cm.p true) (Cm.p false))))).b (aB ((ag (Cm.p (V.str "a list of sizes")) am).b λ_=>gz "BadPlan") bL))
def we:Cm Fl:=((aq 0).b (aQ "last"))
def oH:Cm Fl:=(aw (((((ag (af "size") (ag (av cS (af "last") (aq 1)) (ag (af "length") am))).b (br (kq))).b bi).b fe).b (aB ((ag (Cm.p (V.str "sizes rise up to the length")) am).b λ_=>gz "BadPlan") bL)) ((af "size").b (aQ "last")))
def wf:Cm Fl:=(((af "sizes").b (d5)).b (fc (a9 "size") (oH)))
def wg:Cm Fl:=((af "pages").b λv60=>(af "self").b λv61=>(b0 "pages" v60 v61).b λ_=>Cm.p Fl.next)
def wh:Cm Fl:=((af "length").b λv62=>(af "self").b λv63=>(b0 "length" v62 v63).b λ_=>Cm.p Fl.next)
def wi:Cm Fl:=(((ag (af "sizes") am).b (gE)).b λv67=>(af "self").b λv68=>(b0 "sizes" v67 v68).b λ_=>Cm.p Fl.next)
def sq:Cm Fl:=(aw (wc) (aw (wd) (aw (we) (aw (wf) (aw (wg) (aw (wh) (wi)))))))
def jx:Fc:=gD ["self", "pages", "length", "sizes"] (sq)
theorem An:FX 3 318 (jx) :=
 bW.of C (k:=2) (iI ⟨_,_,_,rfl⟩ (HW λ_ _ _ _=>∅) ∅ rfl) λL =>
 (ak (bK (d9 (eY (eZ (dy (bC C (rF C) (ae aa (ae ar (ae (AV C ∅ vT ∅) aj))) ∅ ∅ ∅ ∅ ∅ ∅))) (eY (eZ (dy (bC C (rF C) (ae aa (ae ar (ae (AV C ∅ uK ∅) aj))) ∅ ∅ ∅ ∅ ∅ ∅))) jQ))) (al (fk C rfl ∅ lI ∅ nS ∅ (ae bE aj) ∅ ∅ (by intro q vs q' h;cases h;decide))) aI) (ak (bK (d9 (eY (eZ (dy (pU C zQ ∅ aO ∅ Cz ∅ ∅ ∅ aa ∅ ∅))) (eY (eZ (Ec C ar (cq C (ae aa aj) (iL C) ∅ ∅ ∅ ∅ ∅ ∅) (AV C ∅ vU ∅) ∅)) jQ))) (al (fk C rfl ∅ lI ∅ nS ∅ (ae bE aj) ∅ ∅ (by intro q vs q' h;cases h;decide))) aI) (ak (au ar ) (ak (fb (bX C (.name _ _) aa) bH (ak (bK (eZ (dy (bC C (rF C) (ae aa (ae (ax C aa ar bZ) (ae aa aj))) ∅ ∅ ∅ ∅ ∅ ∅))) (al (fk C rfl ∅ lI ∅ nS ∅ (ae bE aj) ∅ ∅ (by intro q vs q' h;cases h;decide))) aI) (al (au aa )))) (ak (eJ C Bf aa aa rfl) (ak (eJ C zL aa aa rfl) (al (eJ C Bh (cq C (ae aa aj) (xJ C) ∅ ∅ ∅ ∅ ∅ ∅) aa rfl))))))))
def wn:Cm Fl:=((af "plan").b λv1=>(af "self").b λv2=>(b0 "plan" v1 v2).b λ_=>Cm.p Fl.next)
def wo:Cm Fl:=(Gy.b λv3=>(af "self").b λv4=>(b0 "racks" v3 v4).b λ_=>Cm.p Fl.next)
def wp:Cm Fl:=((av gx ((ag (aq 0) am).b dr) (av gx ((af "plan").b (aC "pages")) ((af "plan").b (aC "length")))).b λv14=>(af "self").b λv15=>(b0 "cells" v14 v15).b λ_=>Cm.p Fl.next)
def sr:Cm Fl:=(aw (wn) (aw (wo) (wp)))
def jy:Fc:=gD ["self", "plan"] (sr)
theorem Ao:FX 1 182 (jy) :=
 bW.of C (k:=0) (iI ⟨_,_,_,rfl⟩ (A0 λ_ _=>∅) ∅ rfl) λL =>
 (ak (eJ C Di aa aa rfl) (ak (eJ C Bg F9 aa rfl) (al (eJ C Be (ax C (cC (ae ar aj)) (ax C (aE C uk aa) (aE C gO aa) mO) mO) aa rfl))))
def oM:Cm V:=db ["self"] ((ag (((af "self").b (aC "plan")).b (aC "pages")) am).b fE) (a9 "page") (aZ .NotIn (af "page") ((af "self").b (aC "racks"))) (af "page")
def wq:Cm Fl:=((oM).b aK)
def sw:Cm Fl:=(wq)
def fH:Fc:=gD ["self"] (sw)
theorem jL:FX 1 187 (fH) :=
 bW.of C (k:=0) (iI ⟨_,_,_,rfl⟩ (B0 λ_=>∅) ∅ rfl) λL =>
 (al (aJ (gp ["self"] ∅ ∅ (nU C ∅ ky (ae (aE C uk (aE C eU bf)) aj) ∅) (λ_=>bH) (eO ∅) (λ_=>(ll (ba C aa (aE C aV bf)))) (λ_=>aa) (λ_=>rfl))))
def oN:Cm V:=db [] (((af "self").b (aC "taken")).b (d5)) (a9 "one") ((af "one").b bi) (af "one")
def ww:Cm Fl:=(((ag (oN) am).b (eW)).b aK)
def sD:Cm Fl:=(ww)
def bO:Fc:=gD ["self"] (sD)
theorem eB:FX 1 130 (bO) :=
 bW.of C (k:=0) (iI ⟨_,_,_,rfl⟩ (B0 λ_=>∅) ∅ rfl) λL =>
 (al (aJ (cq C (ae (gp [] ∅ ∅ (bX C (.name _ _) (aE C dK aa)) (λ_=>bH) (eO ∅) (λ_=>(ll (dy aa))) (λ_=>aa) (λ_=>rfl)) aj) (iL C) ∅ ∅ ∅ ∅ ∅ ∅)))
def gu:Cm V:=db ["self"] (((ag ((af "self").b (aC "racks")) am).b cN).b (d5)) (a9 "page") (Cm.p true) ((ag (af "page") (ag ((az ((af "self").b (aC "racks")) (af "page")).b (aC "size")) (ag (aL "Shelf" "out" (bO) (az ((af "self").b (aC "racks")) (af "page")) am) am))).b mH)
def rI:Cm Fl:=((gu).b aK)
def mY:Cm Fl:=(rI)
def fS:Fc:=gD ["self"] (mY)
theorem ny:FX 2 283 (fS) :=
 bW.of C (k:=1) (iI ⟨_,_,_,rfl⟩ (B0 λ_=>∅) ∅ rfl) λL =>
 (al (aJ (gp ["self"] ∅ ∅ (bX C (.name _ _) (cq C (ae (aE C aV bf) aj) (iM C) ∅ ∅ ∅ ∅ ∅ ∅)) (λ_=>bH) (eO ∅) (λ_=>qV) (λ_=>(fj (ae aa (ae (aE C dD (aP C (aE C aV bf) aa)) (ae (aM C cY (eB C) (aP C (aE C aV bf) aa) aj ∅ ∅ rfl rfl ∅ ∅) aj))))) (λ_=>rfl))))
def vj:Cm Fl:=((av cS (av gx ((af "shelf").b (aC "page")) (((af "self").b (aC "plan")).b (aC "length"))) (av gx (af "slot") ((af "shelf").b (aC "size")))).b aK)
def qk:Cm Fl:=(vj)
def eP:Fc:=gD ["self", "shelf", "slot"] (qk)
theorem iC:FX 1 204 (eP) :=
 bW.of C (k:=0) (iI ⟨_,_,_,rfl⟩ (HV λ_ _ _=>∅) ∅ rfl) λL =>
 (al (aJ (ax C (ax C (aE C xe aa) (aE C gO (aE C eU aa)) mO) (ax C aa (aE C dD aa) mO) bZ)))
def mS:Cm V:=db [] ((ag ((af "self").b (aC "taken")) am).b (oO)) (xt "slot" "one") ((af "one").b bi) (af "slot")
def vy:Cm Fl:=((mS).b aK)
def qp:Cm Fl:=(vy)
def iu:Fc:=gD ["self"] (qp)
theorem qy:FX 1 140 (iu) :=
 bW.of C (k:=0) (iI ⟨_,_,_,rfl⟩ (B0 λ_=>∅) ∅ rfl) λL =>
 (al (aJ (gp [] ∅ ∅ (D7 C rfl ∅ qt (ae (aE C dK aa) aj) ∅) (λ_=>(D5 rfl (.inl ∅) (.inl ∅))) (BZ ∅ ∅) (λ_=>(ll (dy aa))) (λ_=>aa) (λ_=>rfl))))
def my:Cm Fl:=((am.b dr).b (aQ "found"))
def fq:Cm V:=db ["shelf", "self"] ((aL "Shelf" "gone" (iu) (af "shelf") am).b (d5)) (a9 "slot") (Cm.p true) ((ag (aL "Room" "begin" (eP) (af "self") (ag (af "shelf") (ag (af "slot") am))) (ag ((af "shelf").b (aC "size")) am)).b mH)
def lX:Cm Fl:=(aw ((az ((af "self").b (aC "racks")) (af "page")).b (aQ "shelf")) ((av cS (af "found") (fq)).b (aQ "found")))
def tq:Cm Fl:=((((ag ((af "self").b (aC "racks")) am).b cN).b (d5)).b (fc (a9 "page") (lX)))
def tu:Cm Fl:=((af "found").b aK)
def oR:Cm Fl:=(aw (my) (aw (tq) (tu)))
def jT:Fc:=gD ["self"] (oR)
theorem vW:FX 2 278 (jT) :=
 bW.of C (k:=1) (iI ⟨_,_,_,rfl⟩ (B0 λ_=>∅) ∅ rfl) λL =>
 (ak (au (cC aj) ) (ak (fb (bX C (.name _ _) (cq C (ae (aE C aV bf) aj) (iM C) ∅ ∅ ∅ ∅ ∅ ∅)) bH (ak (au (aP C (aE C aV bf) aa) (.inr ⟨∅,∅⟩)) (al (au (ax C aa (gp ["shelf", "self"] ∅ ∅ (bX C (.name _ _) (aM C lZ (qy C) bf aj ∅ ∅ rfl rfl ∅ ∅)) (λ_=>bH) (eO ∅) (λ_=>qV) (λ_=>(fj (ae (aM C fv (iC C) bf (ae bf (ae aa aj)) ∅ ∅ rfl rfl ∅ ∅) (ae (aE C dD bf) aj)))) (λ_=>rfl)) bZ) )))) (al (aJ aa))))
def wv:Cm Fl:=((((aq 0).b λv1=>(af "slot").b λv2=>(dE .LtE v1 v2).b λx3=>if x3 then ((ag ((af "self").b (aC "taken")) am).b (eW)).b λv8=>(dE .Lt v2 v8).b λx9=>Cm.p (V.bool x9) else Cm.p (V.bool false)).b λv13=>(bi v13).b λb14=>if b14 then (az ((af "self").b (aC "taken")) (af "slot")) else Cm.p v13).b aK)
def sC:Cm Fl:=(wv)
def jz:Fc:=gD ["self", "slot"] (sC)
theorem sM:FX 1 154 (jz) :=
 bW.of C (k:=0) (iI ⟨_,_,_,rfl⟩ (A0 λ_ _=>∅) ∅ rfl) λL =>
 (al (aJ (iN (mL (AU C ar aa (cq C (ae (aE C dK aa) aj) (iL C) ∅ ∅ ∅ ∅ ∅ ∅) ∅) (pj (aP C (aE C dK aa) aa))))))
def nE:Cm Fl:=((av dR (af "place") (((af "self").b (aC "plan")).b (aC "length"))).b (aQ "page"))
def vk:Cm Fl:=((aZ .NotIn (af "page") ((af "self").b (aC "racks"))).b (aB ((ag (Cm.p (V.str "no shelf is there")) am).b λ_=>gz "NotOut") bL))
def vm:Cm Fl:=((az ((af "self").b (aC "racks")) (af "page")).b (aQ "shelf"))
def vn:Cm Fl:=((av bD (af "place") (((af "self").b (aC "plan")).b (aC "length"))).b (aQ "step"))
def vo:Cm Fl:=(((aZ .NotEq (av bD (af "step") ((af "shelf").b (aC "size"))) (aq 0)).b (aB (Cm.p true) ((((aL "Shelf" "has" (jz) (af "shelf") (ag (av dR (af "step") ((af "shelf").b (aC "size"))) am)).b bi).b fe).b (aB (Cm.p true) (Cm.p false))))).b (aB ((ag (Cm.p (V.str "no thing begins there")) am).b λ_=>gz "NotOut") bL))
def vp:Cm Fl:=(((ag (af "shelf") (ag (av dR (af "step") ((af "shelf").b (aC "size"))) am)).b mH).b aK)
def iA:Cm Fl:=(aw (nE) (aw (vk) (aw (vm) (aw (vn) (aw (vo) (vp))))))
def di:Fc:=gD ["self", "place"] (iA)
theorem qx:FX 2 211 (di) :=
 bW.of C (k:=1) (iI ⟨_,_,_,rfl⟩ (A0 λ_ _=>∅) ∅ rfl) λL =>
 (ak (au (ax C aa (aE C gO (aE C eU aa)) fG) ) (ak (bK (ba C aa (aE C aV aa)) (al (fk C rfl ∅ gy ∅ pS ∅ (ae bE aj) ∅ ∅ (by intro q vs q' h;cases h;decide))) aI) (ak (au (aP C (aE C aV aa) aa) ) (ak (au (ax C aa (aE C gO (aE C eU aa)) bM) ) (ak (bK (d9 (eY (ba C (ax C aa (aE C dD aa) bM) ar) (eY (eZ (dy (aM C nn (sM C) aa (ae (ax C aa (aE C dD aa) fG) aj) ∅ ∅ rfl rfl ∅ ∅))) jQ))) (al (fk C rfl ∅ gy ∅ pS ∅ (ae bE aj) ∅ ∅ (by intro q vs q' h;cases h;decide))) aI) (al (aJ (fj (ae aa (ae (ax C aa (aE C dD aa) fG) aj))))))))))
def wj:Cm Fl:=((az (aL "Room" "found" (di) (af "self") (ag (af "place") am)) (aq 0)).b (aQ "shelf"))
def wk:Cm Fl:=((((aq 0).b λv8=>(af "step").b λv9=>(dE .LtE v8 v9).b λx10=>if x10 then ((af "shelf").b (aC "size")).b λv12=>(dE .Lt v9 v12).b λx13=>Cm.p x13 else Cm.p false).b fe).b (aB ((ag (Cm.p (V.str "no such step")) am).b λ_=>gz "OutOfThing") bL))
def wm:Cm Fl:=((av cS (af "place") (af "step")).b aK)
def jG:Cm Fl:=(aw (wj) (aw (wk) (wm)))
def dG:Fc:=gD ["self", "place", "step"] (jG)
theorem sK:FX 3 249 (dG) :=
 bW.of C (k:=2) (iI ⟨_,_,_,rfl⟩ (HV λ_ _ _=>∅) ∅ rfl) λL =>
 (ak (au (aP C (aM C lY (qx C) aa (ae aa aj) ∅ ∅ rfl rfl ∅ ∅) ar) ) (ak (bK (eZ (Ec C ar aa (aE C dD aa) ∅)) (al (fk C rfl ∅ gG ∅ vM ∅ (ae bE aj) ∅ ∅ (by intro q vs q' h;cases h;decide))) aI) (al (aJ (ax C aa aa bZ)))))
def vr:Cm Fl:=((af "number").b (po ((af "self").b (aC "cells")) (aL "Room" "cell" (dG) (af "self") (ag (af "place") (ag (af "step") am)))))
def lF:Cm Fl:=(vr)
def dj:Fc:=gD ["self", "place", "step", "number"] (lF)
theorem lK:FX 4 263 (dj) :=
 bW.of C (k:=3) (iI ⟨_,_,_,rfl⟩ (HW λ_ _ _ _=>∅) ∅ rfl) λL =>
 (al (gq C aa (aE C iV aa) (aM C nj (sK C) aa (ae aa (ae aa aj)) ∅ ∅ rfl rfl ∅ ∅) rfl))
def yG:Cm Fl:=((((((ag (af "size") am).b (br (nZ))).b bi).b fe).b (aB (Cm.p true) ((aZ .NotIn (af "size") ((af "self").b (aC "sizes"))).b (aB (Cm.p true) (Cm.p false))))).b (aB ((ag (Cm.p (V.str "no such size")) am).b λ_=>gz "NoSize") bL))
def yH:Cm Fl:=((av dR ((af "self").b (aC "length")) (af "size")).b aK)
def lE:Cm Fl:=(aw (yG) (yH))
def ee:Fc:=gD ["self", "size"] (lE)
theorem pO:FX 2 332 (ee) :=
 bW.of C (k:=1) (iI ⟨_,_,_,rfl⟩ (A0 λ_ _=>∅) ∅ rfl) λL =>
 (ak (bK (d9 (eY (eZ (dy (bC C (yC C) (ae aa aj) ∅ ∅ ∅ ∅ ∅ ∅))) (eY (ba C aa (aE C um aa)) jQ))) (al (fk C rfl ∅ ry ∅ BR ∅ (ae bE aj) ∅ ∅ (by intro q vs q' h;cases h;decide))) aI) (al (aJ (ax C (aE C gO aa) aa fG))))
def mR:Cm V:=db [] ((ag ((af "self").b (aC "taken")) am).b (oO)) (xt "slot" "one") (((af "one").b bi).b fe) (af "slot")
def vv:Cm Fl:=((mR).b aK)
def qo:Cm Fl:=(vv)
def eQ:Fc:=gD ["self"] (qo)
theorem lL:FX 1 135 (eQ) :=
 bW.of C (k:=0) (iI ⟨_,_,_,rfl⟩ (B0 λ_=>∅) ∅ rfl) λL =>
 (al (aJ (gp [] ∅ ∅ (D7 C rfl ∅ qt (ae (aE C dK aa) aj) ∅) (λ_=>(D5 rfl (.inl ∅) (.inl ∅))) (BZ ∅ ∅) (λ_=>(ll (eZ (dy aa)))) (λ_=>aa) (λ_=>rfl))))
def cV:Cm Fl:=((((az ((af "self").b (aC "taken")) (af "slot")).b bi).b fe).b (aB (aw ((Cm.p (V.bool true)).b (po ((af "self").b (aC "taken")) (af "slot"))) ((af "slot").b aK)) bL))
def nN:Cm Fl:=(((ag ((ag ((af "self").b (aC "taken")) am).b (eW)) am).b fE).b (fc (a9 "slot") (cV)))
def vC:Cm Fl:=((ag (Cm.p (V.str "no slot is free")) am).b λ_=>gz "NoRoom")
def lH:Cm Fl:=(aw (nN) (vC))
def fT:Fc:=gD ["self"] (lH)
theorem qA:FX 1 147 (fT) :=
 bW.of C (k:=0) (iI ⟨_,_,_,rfl⟩ (B0 λ_=>∅) ∅ rfl) λL =>
 (ak (fb (nU C ∅ ky (ae (cq C (ae (aE C dK aa) aj) (iL C) ∅ ∅ ∅ ∅ ∅ ∅) aj) ∅) bH (al (bK (eZ (dy (aP C (aE C dK aa) aa))) (ak (gq C cI (aE C dK aa) aa rfl) (al (aJ aa))) aI))) (al (fk C rfl ∅ n8 ∅ vL ∅ (ae bE aj) ∅ ∅ (by intro q vs q' h;cases h;decide))))
def iP:Cm V:=db ["self"] ((af "stay").b (d5)) (a9 "page") (aZ .NotEq (aL "Shelf" "free" (eQ) (az ((af "self").b (aC "racks")) (af "page")) am) (am.b dr)) (az ((af "self").b (aC "racks")) (af "page"))
def nK:Cm Fl:=((az (iP) (aq 0)).b (aQ "shelf"))
def nL:Cm Fl:=((aL "Room" "begin" (eP) (af "self") (ag (af "shelf") (ag (aL "Shelf" "take" (fT) (af "shelf") am) am))).b (aQ "there"))
def mP:Cm Fl:=((az ((af "self").b (aC "cells")) (av cS (af "place") (af "step"))).b (po ((af "self").b (aC "cells")) (av cS (af "there") (af "step"))))
def nM:Cm Fl:=(((ag (af "size") am).b fE).b (fc (a9 "step") (mP)))
def vq:Cm Fl:=(((ag (af "place") (ag (af "there") am)).b mH).b aK)
def qm:Cm Fl:=(aw (nK) (aw (nL) (aw (nM) (vq))))
def ly:Fc:=gD ["self", "place", "stay", "size"] (qm)
theorem yy:FX 2 273 (ly) :=
 bW.of C (k:=1) (iI ⟨_,_,_,rfl⟩ (HW λ_ _ _ _=>∅) ∅ rfl) λL =>
 (ak (au (aP C (gp ["self"] ∅ ∅ (bX C (.name _ _) aa) (λ_=>bH) (eO ∅) (λ_=>(ll (ba C (aM C hV (lL C) (aP C (aE C aV bf) aa) aj ∅ ∅ rfl rfl ∅ ∅) (cC aj)))) (λ_=>(aP C (aE C aV bf) aa)) (λ_=>rfl)) ar) ) (ak (au (aM C fv (iC C) bf (ae aa (ae (aM C mh (qA C) aa aj ∅ ∅ rfl rfl ∅ ∅) aj)) ∅ ∅ rfl rfl ∅ ∅) ) (ak (fb (nU C ∅ ky (ae aa aj) ∅) bH (al (gq C (aP C (aE C iV bf) (ax C aa aa bZ)) (aE C iV bf) (ax C aa aa bZ) rfl))) (al (aJ (fj (ae aa (ae aa aj))))))))
def kj:Cm V:=db ["size", "self"] (((ag ((af "self").b (aC "racks")) am).b cN).b (d5)) (a9 "page") (aZ .Eq ((az ((af "self").b (aC "racks")) (af "page")).b (aC "size")) (af "size")) (af "page")
def kL:Cm Fl:=((kj).b aK)
def i9:Cm Fl:=(kL)
def dz:Fc:=gD ["self", "size"] (i9)
theorem jh:FX 1 197 (dz) :=
 bW.of C (k:=0) (iI ⟨_,_,_,rfl⟩ (A0 λ_ _=>∅) ∅ rfl) λL =>
 (al (aJ (gp ["size", "self"] ∅ ∅ (bX C (.name _ _) (cq C (ae (aE C aV bf) aj) (iM C) ∅ ∅ ∅ ∅ ∅ ∅)) (λ_=>bH) (eO ∅) (λ_=>(ll (ba C (aE C dD (aP C (aE C aV bf) aa)) bf))) (λ_=>aa) (λ_=>rfl))))
def hZ:Cm Fl:=((aL "Plan" "per" (ee) ((af "self").b (aC "plan")) (ag (af "size") am)).b (aQ "per"))
def ml:Cm Fl:=((aL "Room" "of_size" (dz) (af "self") (ag (af "size") am)).b (aQ "pages"))
def gX:Cm V:=db ["self"] ((af "pages").b (d5)) (a9 "page") (Cm.p true) (aL "Shelf" "out" (bO) (az ((af "self").b (aC "racks")) (af "page")) am)
def mn:Cm Fl:=(((ag (gX) am).b BI).b (aQ "many"))
def gY:Cm V:=db ["self"] ((af "pages").b (d5)) (a9 "page") (Cm.p true) ((ag ((aL "Shelf" "out" (bO) (az ((af "self").b (aC "racks")) (af "page")) am).b Dx) (ag (af "page") am)).b mH)
def mq:Cm Fl:=(((ag (gY) am).b cN).b (aQ "ranks"))
def gZ:Cm V:=db [] ((av (Aw) (af "ranks") (av dR (av wb (av cS (af "many") (af "per")) (aq 1)) (af "per"))).b (d5)) (a9 "rank") (Cm.p true) (az (af "rank") (aq 1))
def ic:Cm Fl:=(((ag (gZ) am).b cN).b (aQ "stay"))
def ie:Cm Fl:=((am.b dr).b (aQ "moves"))
def gS:Cm Fl:=((vN true ju (af "moves") (aL "Room" "moved" (ly) (af "self") (ag (aL "Room" "begin" (eP) (af "self") (ag (az ((af "self").b (aC "racks")) (af "page")) (ag (af "slot") am))) (ag (af "stay") (ag (af "size") am))))).b pY)
def fm:Cm Fl:=((aZ .NotIn (af "page") (af "stay")).b (aB (((aL "Shelf" "gone" (iu) (az ((af "self").b (aC "racks")) (af "page")) am).b (d5)).b (fc (a9 "slot") (gS))) bL))
def mw:Cm Fl:=(((af "pages").b (d5)).b (fc (a9 "page") (fm)))
def gU:Cm Fl:=((aZ .NotIn (af "page") (af "stay")).b (aB ((vN false rY ((af "self").b (aC "racks")) (af "page")).b pY) bL))
def mx:Cm Fl:=(((af "pages").b (d5)).b (fc (a9 "page") (gU)))
def tn:Cm Fl:=((af "moves").b aK)
def jZ:Cm Fl:=(aw (hZ) (aw (ml) (aw (mn) (aw (mq) (aw (ic) (aw (ie) (aw (mw) (aw (mx) (tn)))))))))
def dZ:Fc:=gD ["self", "size"] (jZ)
theorem oZ:FX 3 268 (dZ) :=
 bW.of C (k:=2) (iI ⟨_,_,_,rfl⟩ (A0 λ_ _=>∅) ∅ rfl) λL =>
 (ak (au (aM C j4 (pO C) (aE C eU bf) (ae aa aj) ∅ ∅ rfl rfl ∅ ∅) ) (ak (au (aM C fY (jh C) bf (ae aa aj) ∅ ∅ rfl rfl ∅ ∅) ) (ak (au (cq C (ae (gp ["self"] ∅ ∅ (bX C (.name _ _) aa) (λ_=>bH) (eO ∅) (λ_=>qV) (λ_=>(aM C cY (eB C) (aP C (aE C aV bf) aa) aj ∅ ∅ rfl rfl ∅ ∅)) (λ_=>rfl)) aj) (Hd C) ∅ ∅ ∅ ∅ ∅ ∅) ) (ak (au (cq C (ae (gp ["self"] ∅ ∅ (bX C (.name _ _) aa) (λ_=>bH) (eO ∅) (λ_=>qV) (λ_=>(fj (ae (y8 (aM C cY (eB C) (aP C (aE C aV bf) aa) aj ∅ ∅ rfl rfl ∅ ∅)) (ae aa aj)))) (λ_=>rfl)) aj) (iM C) ∅ ∅ ∅ ∅ ∅ ∅) ) (ak (au (cq C (ae (gp [] ∅ ∅ (bX C (.name _ _) (HG C aa (ax C (ax C (ax C aa aa bZ) ar pX) aa fG))) (λ_=>bH) (eO ∅) (λ_=>qV) (λ_=>(aP C aa ar)) (λ_=>rfl)) aj) (iM C) ∅ ∅ ∅ ∅ ∅ ∅) ) (ak (au (cC aj) ) (ak (fb (bX C (.name _ _) aa) bH (al (bK (ba C aa aa) (al (fb (bX C (.name _ _) (aM C lZ (qy C) (aP C (aE C aV bf) aa) aj ∅ ∅ rfl rfl ∅ ∅)) bH (al (fM (pT C true nX (pW C) aa (aM C tg (yy C) bf (ae (aM C fv (iC C) bf (ae (aP C (aE C aV bf) aa) (ae aa aj)) ∅ ∅ rfl rfl ∅ ∅) (ae aa (ae aa aj))) ∅ ∅ rfl rfl ∅ ∅) rfl rfl ∅ ∅ ∅))))) aI))) (ak (fb (bX C (.name _ _) aa) bH (al (bK (ba C aa aa) (al (fM (pT C false xR (AY C) (aE C aV bf) aa rfl rfl ∅ ∅ ∅))) aI))) (al (aJ aa))))))))))
def mQ:Cm V:=db ["self"] (((ag ((af "self").b (aC "racks")) am).b cN).b (d5)) (a9 "page") (aZ .Eq (aL "Shelf" "out" (bO) (az ((af "self").b (aC "racks")) (af "page")) am) (aq 0)) (af "page")
def nB:Cm Fl:=((mQ).b aK)
def iZ:Cm Fl:=(nB)
def b9:Fc:=gD ["self"] (iZ)
theorem dN:FX 2 192 (b9) :=
 bW.of C (k:=1) (iI ⟨_,_,_,rfl⟩ (B0 λ_=>∅) ∅ rfl) λL =>
 (al (aJ (gp ["self"] ∅ ∅ (bX C (.name _ _) (cq C (ae (aE C aV bf) aj) (iM C) ∅ ∅ ∅ ∅ ∅ ∅)) (λ_=>bH) (eO ∅) (λ_=>(ll (ba C (aM C cY (eB C) (aP C (aE C aV bf) aa) aj ∅ ∅ rfl rfl ∅ ∅) ar))) (λ_=>aa) (λ_=>rfl))))
def vw:Cm Fl:=((((aL "Shelf" "has" (jz) (af "self") (ag (af "slot") am)).b bi).b fe).b (aB ((ag (Cm.p (V.str "no such slot is out")) am).b λ_=>gz "NotOut") bL))
def vx:Cm Fl:=((Cm.p (V.bool false)).b (po ((af "self").b (aC "taken")) (af "slot")))
def lG:Cm Fl:=(aw (vw) (vx))
def lz:Fc:=gD ["self", "slot"] (lG)
theorem yA:FX 2 161 (lz) :=
 bW.of C (k:=1) (iI ⟨_,_,_,rfl⟩ (A0 λ_ _=>∅) ∅ rfl) λL =>
 (ak (bK (eZ (dy (aM C nn (sM C) aa (ae aa aj) ∅ ∅ rfl rfl ∅ ∅))) (al (fk C rfl ∅ gy ∅ pS ∅ (ae bE aj) ∅ ∅ (by intro q vs q' h;cases h;decide))) aI) (al (gq C cI (aE C dK aa) aa rfl)))
def jl:Cm Fl:=((aL "Room" "found" (di) (af "self") (ag (af "place") am)).b (aQ "both"))
def jm:Cm Fl:=((az (af "both") (aq 0)).b (aQ "shelf"))
def jn:Cm Fl:=((aL "Shelf" "give" (lz) (af "shelf") (ag (az (af "both") (aq 1)) am)).b pY)
def fC:Cm V:=db ["shelf", "self"] ((aL "Room" "empty_pages" (b9) (af "self") am).b (d5)) (a9 "page") (aZ .Eq ((az ((af "self").b (aC "racks")) (af "page")).b (aC "size")) ((af "shelf").b (aC "size"))) (af "page")
def jo:Cm Fl:=((fC).b (aQ "others"))
def jp:Cm Fl:=(((aZ .Eq (aL "Shelf" "out" (bO) (af "shelf") am) (aq 0)).b (aB ((aZ .Gt ((ag (af "others") am).b (eW)) (aq 1)).b (aB (Cm.p true) (Cm.p false))) (Cm.p false))).b (aB ((vN false rY ((af "self").b (aC "racks")) ((af "shelf").b (aC "page"))).b pY) bL))
def gw:Cm Fl:=(aw (jl) (aw (jm) (aw (jn) (aw (jo) (jp)))))
def cc:Fc:=gD ["self", "place"] (gw)
theorem kJ:FX 3 230 (cc) :=
 bW.of C (k:=2) (iI ⟨_,_,_,rfl⟩ (A0 λ_ _=>∅) ∅ rfl) λL =>
 (ak (au (aM C lY (qx C) bf (ae aa aj) ∅ ∅ rfl rfl ∅ ∅) ) (ak (au (aP C aa ar) (.inr ⟨∅,∅⟩)) (ak (fM (aM C ti (yA C) bf (ae (aP C aa ar) aj) ∅ ∅ rfl rfl ∅ ∅)) (ak (wP ["shelf", "self"] ∅ ∅ (bX C (.name _ _) (aM C c9 (dN C) bf aj ∅ ∅ rfl rfl ∅ ∅)) (λ_=>bH) (eO ∅) (λ_=>(ll (ba C (aE C dD (aP C (aE C aV bf) aa)) (aE C dD bf)))) (λ_=>aa) (λ_=>rfl) rfl ∅) (al (bK (d9 (fy (ba C (aM C cY (eB C) bf aj ∅ ∅ rfl rfl ∅ ∅) ar) (fy (ba C (cq C (ae aa aj) (iL C) ∅ ∅ ∅ ∅ ∅ ∅) ar) lh))) (al (fM (pT C false xR (AY C) (aE C aV bf) (aE C xe bf) rfl rfl ∅ ∅ ∅))) aI))))))
def wr:Cm Fl:=((az ((af "self").b (aC "cells")) (aL "Room" "cell" (dG) (af "self") (ag (af "place") (ag (af "step") am)))).b aK)
def mX:Cm Fl:=(wr)
def dH:Fc:=gD ["self", "place", "step"] (mX)
theorem nx:FX 4 256 (dH) :=
 bW.of C (k:=3) (iI ⟨_,_,_,rfl⟩ (HV λ_ _ _=>∅) ∅ rfl) λL =>
 (al (aJ (aP C (aE C iV aa) (aM C nj (sK C) aa (ae aa (ae aa aj)) ∅ ∅ rfl rfl ∅ ∅))))
def jM:Cm Fl:=((((((ag (af "wish") am).b (br (nZ))).b bi).b fe).b (aB (Cm.p true) ((aZ .Lt (af "wish") (aq 1)).b (aB (Cm.p true) (Cm.p false))))).b (aB ((ag (Cm.p (V.str "a wish is from 1 on")) am).b λ_=>gz "BadWish") bL))
def fN:Cm Fl:=((aZ .GtE (af "size") (af "wish")).b (aB ((af "size").b aK) bL))
def jN:Cm Fl:=((((af "self").b (aC "sizes")).b (d5)).b (fc (a9 "size") (fN)))
def qF:Cm Fl:=((ag (Cm.p (V.str "beyond the greatest size")) am).b λ_=>gz "TooLarge")
def dW:Cm Fl:=(aw (jM) (aw (jN) (qF)))
def bV:Fc:=gD ["self", "wish"] (dW)
theorem mj:FX 2 325 (bV) :=
 bW.of C (k:=1) (iI ⟨_,_,_,rfl⟩ (A0 λ_ _=>∅) ∅ rfl) λL =>
 (ak (bK (d9 (eY (eZ (dy (bC C (yC C) (ae aa aj) ∅ ∅ ∅ ∅ ∅ ∅))) (eY (ba C aa ar) jQ))) (al (fk C rfl ∅ fD ∅ AO ∅ (ae bE aj) ∅ ∅ (by intro q vs q' h;cases h;decide))) aI) (ak (fb (bX C (.name _ _) (aE C um aa)) bH (al (bK (ba C aa aa) (al (aJ aa)) aI))) (al (fk C rfl ∅ dJ ∅ yZ ∅ (ae bE aj) ∅ ∅ (by intro q vs q' h;cases h;decide)))))
def gf:Cm Fl:=((aL "Plan" "size_for" (bV) ((af "self").b (aC "plan")) (ag (af "places") am)).b (aQ "size"))
def fP:Cm V:=db ["self"] ((aL "Room" "of_size" (dz) (af "self") (ag (af "size") am)).b (d5)) (a9 "page") (Cm.p true) ((ag (aL "Shelf" "free" (eQ) (az ((af "self").b (aC "racks")) (af "page")) am) am).b (eW))
def jO:Cm Fl:=(((ag (fP) am).b BI).b (aQ "free"))
def fQ:Cm V:=db ["size", "self"] ((aL "Room" "empty_pages" (b9) (af "self") am).b (d5)) (a9 "page") (aZ .NotEq ((az ((af "self").b (aC "racks")) (af "page")).b (aC "size")) (af "size")) (af "page")
def jP:Cm Fl:=((fQ).b (aQ "others"))
def qG:Cm Fl:=((av cS (af "free") (av gx (av cS ((ag (aL "Room" "pile" (fH) (af "self") am) am).b (eW)) ((ag (af "others") am).b (eW))) (aL "Plan" "per" (ee) ((af "self").b (aC "plan")) (ag (af "size") am)))).b aK)
def fu:Cm Fl:=(aw (gf) (aw (jO) (aw (jP) (qG))))
def dg:Fc:=gD ["self", "places"] (fu)
theorem tm:FX 3 242 (dg) :=
 bW.of C (k:=2) (iI ⟨_,_,_,rfl⟩ (A0 λ_ _=>∅) ∅ rfl) λL =>
 (ak (au (aM C ja (mj C) (aE C eU bf) (ae aa aj) ∅ ∅ rfl rfl ∅ ∅) (.inr ⟨∅,∅⟩)) (ak (au (cq C (ae (gp ["self"] ∅ ∅ (bX C (.name _ _) (aM C fY (jh C) bf (ae bf aj) ∅ ∅ rfl rfl ∅ ∅)) (λ_=>bH) (eO ∅) (λ_=>qV) (λ_=>(cq C (ae (aM C hV (lL C) (aP C (aE C aV bf) aa) aj ∅ ∅ rfl rfl ∅ ∅) aj) (iL C) ∅ ∅ ∅ ∅ ∅ ∅)) (λ_=>rfl)) aj) (Hd C) ∅ ∅ ∅ ∅ ∅ ∅) ) (ak (wP ["size", "self"] ∅ ∅ (bX C (.name _ _) (aM C c9 (dN C) bf aj ∅ ∅ rfl rfl ∅ ∅)) (λ_=>bH) (eO ∅) (λ_=>(ll (ba C (aE C dD (aP C (aE C aV bf) aa)) bf))) (λ_=>aa) (λ_=>rfl) rfl ∅) (al (aJ (ax C aa (ax C (ax C (cq C (ae (aM C fZ (jL C) bf aj ∅ ∅ rfl rfl ∅ ∅) aj) (iL C) ∅ ∅ ∅ ∅ ∅ ∅) (cq C (ae aa aj) (iL C) ∅ ∅ ∅ ∅ ∅ ∅) bZ) (aM C j4 (pO C) (aE C eU bf) (ae bf aj) ∅ ∅ rfl rfl ∅ ∅) mO) bZ))))))
def vz:Cm Fl:=((af "page").b λv1=>(af "self").b λv2=>(b0 "page" v1 v2).b λ_=>Cm.p Fl.next)
def vA:Cm Fl:=((af "size").b λv3=>(af "self").b λv4=>(b0 "size" v3 v4).b λ_=>Cm.p Fl.next)
def vB:Cm Fl:=((av gx ((ag (Cm.p (V.bool false)) am).b dr) (af "slots")).b λv10=>(af "self").b λv11=>(b0 "taken" v10 v11).b λ_=>Cm.p Fl.next)
def qq:Cm Fl:=(aw (vz) (aw (vA) (vB)))
def iw:Fc:=gD ["self", "page", "size", "slots"] (qq)
theorem yB:FX 1 125 (iw) :=
 bW.of C (k:=0) (iI ⟨_,_,_,rfl⟩ (HW λ_ _ _ _=>∅) ∅ rfl) λL =>
 (ak (eJ C Dh aa aa rfl) (ak (eJ C Dj aa aa rfl) (al (eJ C Bi (ax C (cC (ae cI aj)) aa mO) aa rfl))))
def nH:Cm Fl:=((aL "Room" "pile" (fH) (af "self") am).b (aQ "pages"))
def jk:Cm Fl:=((aZ .Eq (af "pages") (am.b dr)).b (aB ((aL "Room" "empty_pages" (b9) (af "self") am).b (aQ "pages")) bL))
def ge:Cm Fl:=((aZ .Eq (af "pages") (am.b dr)).b (aB ((ag (Cm.p (V.str "no page is free")) am).b λ_=>gz "NoRoom") bL))
def nI:Cm Fl:=(((ag (az (af "pages") (aq 0)) (ag (af "size") (ag (aL "Plan" "per" (ee) ((af "self").b (aC "plan")) (ag (af "size") am)) am))).b (oY "Shelf" (iw))).b (po ((af "self").b (aC "racks")) (az (af "pages") (aq 0))))
def nJ:Cm Fl:=((az ((af "self").b (aC "racks")) (az (af "pages") (aq 0))).b aK)
def iB:Cm Fl:=(aw (nH) (aw (jk) (aw (ge) (aw (nI) (nJ)))))
def iq:Fc:=gD ["self", "size"] (iB)
theorem yx:FX 3 218 (iq) :=
 bW.of C (k:=2) (iI ⟨_,_,_,rfl⟩ (A0 λ_ _=>∅) ∅ rfl) λL =>
 (ak (au (aM C fZ (jL C) aa aj ∅ ∅ rfl rfl ∅ ∅) ) (ak (bK (ba C aa (cC aj)) (al (au (aM C c9 (dN C) aa aj ∅ ∅ rfl rfl ∅ ∅) )) aI) (ak (bK (ba C aa (cC aj)) (al (fk C rfl ∅ n8 ∅ vL ∅ (ae bE aj) ∅ ∅ (by intro q vs q' h;cases h;decide))) aI) (ak (gq C (AW C ∅ E0 Bq ∅ ∅ zZ Bk ∅ (yB C) ∅ (ae (aP C aa ar) (ae aa (ae (aM C j4 (pO C) (aE C eU aa) (ae aa aj) ∅ ∅ rfl rfl ∅ ∅) aj))) ∅) (aE C aV aa) (aP C aa ar) rfl) (al (aJ (aP C (aE C aV aa) (aP C aa ar))))))))
def o5:Cm Fl:=((aL "Plan" "size_for" (bV) ((af "self").b (aC "plan")) (ag (af "places") am)).b (aQ "size"))
def o9:Cm Fl:=((Cm.p V.none).b (aQ "best"))
def jR:Cm Fl:=(aw ((az ((af "self").b (aC "racks")) (af "page")).b (aQ "shelf")) (((aZ .NotEq (aL "Shelf" "free" (eQ) (af "shelf") am) (am.b dr)).b (aB (((aZ .Is (af "best") (Cm.p V.none)).b (aB (Cm.p true) ((aZ .Gt (aL "Shelf" "out" (bO) (af "shelf") am) (aL "Shelf" "out" (bO) (af "best") am)).b (aB (Cm.p true) (Cm.p false))))).b (aB (Cm.p true) (Cm.p false))) (Cm.p false))).b (aB ((af "shelf").b (aQ "best")) bL)))
def pb:Cm Fl:=(((aL "Room" "of_size" (dz) (af "self") (ag (af "size") am)).b (d5)).b (fc (a9 "page") (jR)))
def j6:Cm Fl:=((aZ .Is (af "best") (Cm.p V.none)).b (aB ((aL "Room" "fresh" (iq) (af "self") (ag (af "size") am)).b (aQ "best")) bL))
def j7:Cm Fl:=((aL "Room" "begin" (eP) (af "self") (ag (af "best") (ag (aL "Shelf" "take" (fT) (af "best") am) am))).b (aQ "place"))
def oJ:Cm Fl:=((aq 0).b (po ((af "self").b (aC "cells")) (av cS (af "place") (af "step"))))
def j8:Cm Fl:=(((ag (af "size") am).b fE).b (fc (a9 "step") (oJ)))
def pc:Cm Fl:=((af "place").b aK)
def fJ:Cm Fl:=(aw (o5) (aw (o9) (aw (pb) (aw (j6) (aw (j7) (aw (j8) (pc)))))))
def cD:Fc:=gD ["self", "places"] (fJ)
theorem sL:FX 4 225 (cD) :=
 bW.of C (k:=3) (iI ⟨_,_,_,rfl⟩ (A0 λ_ _=>∅) ∅ rfl) λL =>
 (ak (au (aM C ja (mj C) (aE C eU aa) (ae aa aj) ∅ ∅ rfl rfl ∅ ∅) ) (ak (au mM ) (ak (fb (bX C (.name _ _) (aM C fY (jh C) aa (ae aa aj) ∅ ∅ rfl rfl ∅ ∅)) bH (ak (au (aP C (aE C aV aa) aa) ) (al (bK (d9 (fy (ba C (aM C hV (lL C) aa aj ∅ ∅ rfl rfl ∅ ∅) (cC aj)) (fy (d9 (eY (ba C aa mM) (eY (ba C (aM C cY (eB C) aa aj ∅ ∅ rfl rfl ∅ ∅) (aM C cY (eB C) aa aj ∅ ∅ rfl rfl ∅ ∅)) jQ))) lh))) (al (au aa )) aI)))) (ak (bK (ba C aa mM) (al (au (aM C tf (yx C) aa (ae aa aj) ∅ ∅ rfl rfl ∅ ∅) )) aI) (ak (au (aM C fv (iC C) aa (ae aa (ae (aM C mh (qA C) aa aj ∅ ∅ rfl rfl ∅ ∅) aj)) ∅ ∅ rfl rfl ∅ ∅) ) (ak (fb (nU C ∅ ky (ae aa aj) ∅) bH (al (gq C ar (aE C iV aa) (ax C aa aa bZ) rfl))) (al (aJ aa))))))))
def yN:Cm Fl:=((aZ .Eq (af "_law_way") (aq 0)).b (aB ((aL "Room" "wish" (cD) (af "_law_room") (ag (az ((ag (af "_law_place") (ag (Cm.p (V.bool true)) (ag (Cm.p (V.str "2")) (ag (Cm.p V.none) (ag (aq 0) (ag (av wb ((aq 1).b Dx) (av bD (af "_law_cell") (aq 99))) am)))))).b dr) (av bD (af "_law_cell") (aq 6))) am)).b aK) bL))
def yO:Cm Fl:=((aZ .Eq (af "_law_way") (aq 1)).b (aB ((aL "Room" "room_for" (dg) (af "_law_room") (ag (az ((ag (af "_law_place") (ag (Cm.p (V.bool true)) (ag (Cm.p (V.str "2")) (ag (Cm.p V.none) (ag (aq 0) (ag (av wb ((aq 1).b Dx) (av bD (af "_law_cell") (aq 99))) am)))))).b dr) (av bD (af "_law_cell") (aq 6))) am)).b aK) bL))
def yP:Cm Fl:=((aZ .Eq (af "_law_way") (aq 2)).b (aB ((aL "Room" "give_back" (cc) (af "_law_room") (ag (af "_law_place") am)).b aK) bL))
def yQ:Cm Fl:=((aZ .Eq (af "_law_way") (aq 3)).b (aB ((aL "Room" "read" (dH) (af "_law_room") (ag (af "_law_place") (ag (af "_law_step_here") am))).b aK) bL))
def yR:Cm Fl:=((aZ .Eq (af "_law_way") (aq 4)).b (aB ((aL "Room" "write" (dj) (af "_law_room") (ag (af "_law_place") (ag (af "_law_step_here") (ag (af "_law_cell") am)))).b aK) bL))
def yS:Cm Fl:=((aL "Room" "gather" (dZ) (af "_law_room") (ag (af "_law_place") am)).b aK)
def ck:Cm Fl:=(aw (yN) (aw (yO) (aw (yP) (aw (yQ) (aw (yR) (yS))))))
def bT:Fc:=gD ["_law_room", "_law_way", "_law_place", "_law_step_here", "_law_cell"] (ck)
theorem uY:FX 5 423 (bT) :=
 bW.of C (k:=4) (iI ⟨_,_,_,rfl⟩ (JI λ_ _ _ _ _=>∅) ∅ rfl) λL =>
 (ak (bK (ba C aa ar) (al (aJ (aM C nk (sL C) aa (ae (aP C (cC (ae aa (ae cI (ae bE (ae mM (ae ar (ae (ax C (y8 ar) (ax C aa ar bM) pX) aj))))))) (ax C aa ar bM)) aj) ∅ ∅ rfl rfl ∅ ∅))) aI) (ak (bK (ba C aa ar) (al (aJ (aM C pL (tm C) aa (ae (aP C (cC (ae aa (ae cI (ae bE (ae mM (ae ar (ae (ax C (y8 ar) (ax C aa ar bM) pX) aj))))))) (ax C aa ar bM)) aj) ∅ ∅ rfl rfl ∅ ∅))) aI) (ak (bK (ba C aa ar) (al (aJ (aM C ij (kJ C) aa (ae aa aj) ∅ ∅ rfl rfl ∅ ∅))) aI) (ak (bK (ba C aa ar) (al (aJ (aM C jb (nx C) aa (ae aa (ae aa aj)) ∅ ∅ rfl rfl ∅ ∅))) aI) (ak (bK (ba C aa ar) (al (aJ (aM C hU (lK C) aa (ae aa (ae aa (ae aa aj))) ∅ ∅ rfl rfl ∅ ∅))) aI) (al (aJ (aM C ku (oZ C) aa (ae aa aj) ∅ ∅ rfl rfl ∅ ∅))))))))
def tw:Cm Fl:=(Az (((ag (af "_law_room") (ag (af "_law_way") (ag (af "_law_place") (ag (af "_law_step_here") (ag (af "_law_cell") am))))).b (br (bT))).b pY) (λc=>if c = "BadWish" then (AR "e" "BadWish" ((az ((ag (Cm.p (V.str "")) (ag (Cm.p (V.str "wish")) am)).b dr) ((ag ((af "e").b (pI [("RoomError",true),("BadPlan",true),("BadWish",true),("TooLarge",true),("NoSize",true),("NoRoom",true),("NotOut",true),("OutOfThing",true)])) am).b oF)).b aK)) else if c = "TooLarge" then (AR "e" "TooLarge" ((az ((ag (Cm.p (V.str "")) (ag (Cm.p (V.str "large")) am)).b dr) ((ag ((af "e").b (pI [("RoomError",true),("BadPlan",true),("BadWish",true),("TooLarge",true),("NoSize",true),("NoRoom",true),("NotOut",true),("OutOfThing",true)])) am).b oF)).b aK)) else if c = "NoSize" then (AR "e" "NoSize" ((az ((ag (Cm.p (V.str "")) (ag (Cm.p (V.str "size")) am)).b dr) ((ag ((af "e").b (pI [("RoomError",true),("BadPlan",true),("BadWish",true),("TooLarge",true),("NoSize",true),("NoRoom",true),("NotOut",true),("OutOfThing",true)])) am).b oF)).b aK)) else if c = "NotOut" then (AR "e" "NotOut" ((az ((ag (Cm.p (V.str "")) (ag (Cm.p (V.str "out")) am)).b dr) ((ag ((af "e").b (pI [("RoomError",true),("BadPlan",true),("BadWish",true),("TooLarge",true),("NoSize",true),("NoRoom",true),("NotOut",true),("OutOfThing",true)])) am).b oF)).b aK)) else if c = "OutOfThing" then (AR "e" "OutOfThing" ((az ((ag (Cm.p (V.str "")) (ag (Cm.p (V.str "step")) am)).b dr) ((ag ((af "e").b (pI [("RoomError",true),("BadPlan",true),("BadWish",true),("TooLarge",true),("NoSize",true),("NoRoom",true),("NotOut",true),("OutOfThing",true)])) am).b oF)).b aK)) else Cm.stk))
def tx:Cm Fl:=((Cm.p (V.str "")).b aK)
def oS:Cm Fl:=(aw (tw) (tx))
def jU:Fc:=gD ["_law_room", "_law_way", "_law_place", "_law_step_here", "_law_cell"] (oS)
theorem vX:FX 6 444 (jU) :=
 bW.of C (k:=5) (iI ⟨_,_,_,rfl⟩ (JI λ_ _ _ _ _=>∅) ∅ rfl) λL =>
 (ak (Ed (al (fM (bC C (uY C) (ae aa (ae aa (ae aa (ae aa (ae aa aj))))) ∅ ∅ ∅ ∅ ∅ ∅))) (λc=>(iW (dw (a:=49) C ∅ fD ∅ ∅ ∅ ∅ (al (aJ (aP C (cC (ae bE (ae bE aj))) (cq C (ae (lW C (X:=ka) (λ_=>rfl) eA ∅ aO (λA ι q s Q E R h=>ff C R ∅ fh ∅ ∅ ∅ h) aa ∅ ∅ ∅) aj) (rU C) ∅ ∅ ∅ ∅ ∅ ∅))))) (iW (iO (a:=61) C ∅ fD ∅ ∅ ∅ (dw (a:=61) C ∅ dJ ∅ ∅ ∅ ∅ (al (aJ (aP C (cC (ae bE (ae bE aj))) (cq C (ae (lW C (X:=ka) (λ_=>rfl) eA ∅ aO (λA ι q s Q E R h=>ff C R ∅ fh ∅ ∅ ∅ h) aa ∅ ∅ ∅) aj) (rU C) ∅ ∅ ∅ ∅ ∅ ∅)))))) (iW (iO (a:=73) C ∅ fD ∅ ∅ ∅ (iO (a:=73) C ∅ dJ ∅ ∅ ∅ (iO (a:=73) C ∅ gy ∅ ∅ ∅ (iO (a:=73) C ∅ gG ∅ ∅ ∅ (dw (a:=73) C ∅ ry ∅ ∅ ∅ ∅ (al (aJ (aP C (cC (ae bE (ae bE aj))) (cq C (ae (lW C (X:=ka) (λ_=>rfl) eA ∅ aO (λA ι q s Q E R h=>ff C R ∅ fh ∅ ∅ ∅ h) aa ∅ ∅ ∅) aj) (rU C) ∅ ∅ ∅ ∅ ∅ ∅))))))))) (iW (iO (a:=97) C ∅ fD ∅ ∅ ∅ (iO (a:=97) C ∅ dJ ∅ ∅ ∅ (dw (a:=97) C ∅ gy ∅ ∅ ∅ ∅ (al (aJ (aP C (cC (ae bE (ae bE aj))) (cq C (ae (lW C (X:=ka) (λ_=>rfl) eA ∅ aO (λA ι q s Q E R h=>ff C R ∅ fh ∅ ∅ ∅ h) aa ∅ ∅ ∅) aj) (rU C) ∅ ∅ ∅ ∅ ∅ ∅))))))) (iW (iO (a:=109) C ∅ fD ∅ ∅ ∅ (iO (a:=109) C ∅ dJ ∅ ∅ ∅ (iO (a:=109) C ∅ gy ∅ ∅ ∅ (dw (a:=109) C ∅ gG ∅ ∅ ∅ ∅ (al (aJ (aP C (cC (ae bE (ae bE aj))) (cq C (ae (lW C (X:=ka) (λ_=>rfl) eA ∅ aO (λA ι q s Q E R h=>ff C R ∅ fh ∅ ∅ ∅ h) aa ∅ ∅ ∅) aj) (rU C) ∅ ∅ ∅ ∅ ∅ ∅)))))))) Bj))))))) (al (aJ bE)))
def tz:Cm Fl:=((aZ .Lt (af "_law_k") ((ag (af "_law_script") am).b (eW))).b (aB ((az (af "_law_script") (af "_law_k")).b aK) bL))
def tB:Cm Fl:=((aq 0).b aK)
def j0:Cm Fl:=(aw (tz) (tB))
def bR:Fc:=gD ["_law_script", "_law_k"] (j0)
theorem cR:FX 1 346 (bR) :=
 bW.of C (k:=0) (iI ⟨_,_,_,rfl⟩ (A0 λ_ _=>∅) ∅ rfl) λL =>
 (ak (bK (ba C aa (cq C (ae aa aj) (iL C) ∅ ∅ ∅ ∅ ∅ ∅)) (al (aJ (aP C aa aa))) aI) (al (aJ ar)))
def gW:Cm Fl:=((aZ .GtE (af "_law_size") (af "_law_wish")).b (aB ((af "_law_size").b aK) bL))
def mD:Cm Fl:=(((af "_law_sizes").b (d5)).b (fc (a9 "_law_size") (gW)))
def tJ:Cm Fl:=((aq 0).b aK)
def j3:Cm Fl:=(aw (mD) (tJ))
def fg:Fc:=gD ["_law_sizes", "_law_wish"] (j3)
theorem o3:FX 1 374 (fg) :=
 bW.of C (k:=0) (iI ⟨_,_,_,rfl⟩ (A0 λ_ _=>∅) ∅ rfl) λL =>
 (ak (fb (bX C (.name _ _) aa) bH (al (bK (ba C aa aa) (al (aJ aa)) aI))) (al (aJ ar)))
def sQ:Cm Fl:=((aZ .Lt (af "_law_way") (aq 2)).b (aB (aw ((az ((ag (af "_law_place") (ag (aq 0) (ag (aq 0) (ag (aq 0) (ag (aq 0) (ag ((aq 1).b Dx) am)))))).b dr) (av bD (af "_law_cell") (aq 6))).b (aQ "_law_wish")) (aw ((aZ .Lt (af "_law_wish") (aq 1)).b (aB ((Cm.p (V.str "wish")).b aK) bL)) ((az ((ag (Cm.p (V.str "")) (ag (Cm.p (V.str "large")) am)).b dr) ((ag (pn .Eq ((ag (af "_law_sizes") (ag (af "_law_wish") am)).b (br (fg))) (aq 0)) am).b oF)).b aK))) bL))
def sR:Cm Fl:=((aZ .Eq (af "_law_way") (aq 5)).b (aB ((az ((ag (Cm.p (V.str "size")) (ag (Cm.p (V.str "")) am)).b dr) ((ag (((af "_law_place").b (mG "int")).b λv70=>(bi v70).b λb71=>if b71 then ((((af "_law_place").b (mG "bool")).b λv63=>(bi v63).b λb64=>Cm.p (V.bool (!b64))).b λv68=>(bi v68).b λb69=>if b69 then (pn .In (af "_law_place") (af "_law_sizes")) else Cm.p v68) else Cm.p v70) am).b oF)).b aK) bL))
def jv:Cm Fl:=((aZ .Eq (az (af "_law_pair") (aq 0)) (af "_law_place")).b (aB ((az ((ag (Cm.p (V.str "")) (ag (Cm.p (V.str "step")) am)).b dr) ((ag ((pn .Gt (af "_law_way") (aq 2)).b λv102=>(bi v102).b λb103=>if b103 then (((aq 0).b λv93=>(af "_law_step_here").b λv94=>(dE .LtE v93 v94).b λx95=>if x95 then (az (af "_law_pair") (aq 1)).b λv98=>(dE .Lt v94 v98).b λx99=>Cm.p (V.bool x99) else Cm.p (V.bool false)).b λv100=>(bi v100).b λb101=>Cm.p (V.bool (!b101))) else Cm.p v102) am).b oF)).b aK) bL))
def sS:Cm Fl:=(((af "_law_out").b (d5)).b (fc (a9 "_law_pair") (jv)))
def Av:Cm Fl:=((Cm.p (V.str "out")).b aK)
def kt:Cm Fl:=(aw (sQ) (aw (sR) (aw (sS) (Av))))
def iH:Fc:=gD ["_law_sizes", "_law_out", "_law_way", "_law_place", "_law_step_here", "_law_cell"] (kt)
theorem DF:FX 2 430 (iH) :=
 bW.of C (k:=1) (iI ⟨_,_,_,rfl⟩ (Kt λ_ _ _ _ _ _=>∅) ∅ rfl) λL =>
 (ak (bK (ba C aa ar) (ak (au (aP C (cC (ae aa (ae ar (ae ar (ae ar (ae ar (ae (y8 ar) aj))))))) (ax C aa ar bM)) ) (ak (bK (ba C aa ar) (al (aJ bE)) aI) (al (aJ (aP C (cC (ae bE (ae bE aj))) (cq C (ae (wL C (bC C (o3 C) (ae aa (ae aa aj)) ∅ ∅ ∅ ∅ ∅ ∅) ar) aj) (rU C) ∅ ∅ ∅ ∅ ∅ ∅)))))) aI) (ak (bK (ba C aa ar) (al (aJ (aP C (cC (ae bE (ae bE aj))) (cq C (ae (iN (mL (pU C yg ∅ aO ∅ By ∅ ∅ ∅ aa ∅ ∅) (mL (BS (pU C uo ∅ aO ∅ yp ∅ ∅ ∅ aa ∅ ∅)) (pj (wL C aa aa))))) aj) (rU C) ∅ ∅ ∅ ∅ ∅ ∅)))) aI) (ak (fb (bX C (.name _ _) aa) bH (al (bK (ba C (aP C aa ar) aa) (al (aJ (aP C (cC (ae bE (ae bE aj))) (cq C (ae (iN (mL (wL C aa ar) (pj (BS (AU C ar aa (aP C aa ar) ∅))))) aj) (rU C) ∅ ∅ ∅ ∅ ∅ ∅)))) aI))) (al (aJ bE)))))
noncomputable def cQ:Cm Fl:=(aw ((Cm.p (V.str "")).b (aQ "_law_found_here")) (aw ((((af "e").b (pI [("RoomError",false),("BadPlan",true),("BadWish",false),("TooLarge",false),("NoSize",false),("NoRoom",false),("NotOut",false),("OutOfThing",false)])).b bi).b (aB ((av cS (af "_law_found_here") (Cm.p (V.str "plan"))).b (aQ "_law_found_here")) bL)) (aw ((((af "e").b (pI [("RoomError",false),("BadPlan",false),("BadWish",false),("TooLarge",false),("NoSize",false),("NoRoom",true),("NotOut",false),("OutOfThing",false)])).b bi).b (aB ((av cS (af "_law_found_here") (Cm.p (V.str "room"))).b (aQ "_law_found_here")) bL)) (aw ((((af "e").b (pI [("RoomError",false),("BadPlan",false),("BadWish",true),("TooLarge",false),("NoSize",false),("NoRoom",false),("NotOut",false),("OutOfThing",false)])).b bi).b (aB ((av cS (af "_law_found_here") (Cm.p (V.str "wish"))).b (aQ "_law_found_here")) bL)) (aw ((((af "e").b (pI [("RoomError",false),("BadPlan",false),("BadWish",false),("TooLarge",true),("NoSize",false),("NoRoom",false),("NotOut",false),("OutOfThing",false)])).b bi).b (aB ((av cS (af "_law_found_here") (Cm.p (V.str "large"))).b (aQ "_law_found_here")) bL)) (aw ((((af "e").b (pI [("RoomError",false),("BadPlan",false),("BadWish",false),("TooLarge",false),("NoSize",false),("NoRoom",false),("NotOut",true),("OutOfThing",false)])).b bi).b (aB ((av cS (af "_law_found_here") (Cm.p (V.str "out"))).b (aQ "_law_found_here")) bL)) (aw ((((af "e").b (pI [("RoomError",false),("BadPlan",false),("BadWish",false),("TooLarge",false),("NoSize",false),("NoRoom",false),("NotOut",false),("OutOfThing",true)])).b bi).b (aB ((av cS (af "_law_found_here") (Cm.p (V.str "step"))).b (aQ "_law_found_here")) bL)) (aw ((((af "e").b (pI [("RoomError",false),("BadPlan",false),("BadWish",false),("TooLarge",false),("NoSize",true),("NoRoom",false),("NotOut",false),("OutOfThing",false)])).b bi).b (aB ((av cS (af "_law_found_here") (Cm.p (V.str "size"))).b (aQ "_law_found_here")) bL)) ((af "_law_found_here").b aK)))))))))
def wC:Cm Fl:=(Az (((ag (af "_law_room") (ag (af "_law_way") (ag (af "_law_place") (ag (af "_law_step_here") (ag (af "_law_cell") am))))).b (br (bT))).b pY) (λc=>if c = "RoomError" then (AR "e" "RoomError" (cQ)) else if c = "BadPlan" then (AR "e" "BadPlan" (cQ)) else if c = "BadWish" then (AR "e" "BadWish" (cQ)) else if c = "TooLarge" then (AR "e" "TooLarge" (cQ)) else if c = "NoSize" then (AR "e" "NoSize" (cQ)) else if c = "NoRoom" then (AR "e" "NoRoom" (cQ)) else if c = "NotOut" then (AR "e" "NotOut" (cQ)) else if c = "OutOfThing" then (AR "e" "OutOfThing" (cQ)) else Cm.stk))
def wD:Cm Fl:=((Cm.p (V.str "")).b aK)
def mZ:Cm Fl:=(aw (wC) (wD))
def jB:Fc:=gD ["_law_room", "_law_way", "_law_place", "_law_step_here", "_law_cell"] (mZ)
theorem Aq:FX 6 437 (jB) :=
 bW.of C (k:=5) (iI ⟨_,_,_,rfl⟩ (JI λ_ _ _ _ _=>∅) ∅ rfl) λL =>
 (ak (Ed (al (fM (bC C (uY C) (ae aa (ae aa (ae aa (ae aa (ae aa aj))))) ∅ ∅ ∅ ∅ ∅ ∅))) (λc=>((λph0=>(iW (dw (a:=24) C ∅ dm ∅ ∅ ∅ ∅ ph0) (iW (dw (a:=37) C ∅ dm ∅ ∅ ∅ ∅ ph0) (iW (dw (a:=49) C ∅ dm ∅ ∅ ∅ ∅ ph0) (iW (dw (a:=61) C ∅ dm ∅ ∅ ∅ ∅ ph0) (iW (dw (a:=73) C ∅ dm ∅ ∅ ∅ ∅ ph0) (iW (dw (a:=85) C ∅ dm ∅ ∅ ∅ ∅ ph0) (iW (dw (a:=97) C ∅ dm ∅ ∅ ∅ ∅ ph0) (iW (dw (a:=109) C ∅ dm ∅ ∅ ∅ ∅ ph0) Bj))))))))) (ak (au bE ) (ak (bK (dy (lW C (X:=ka) (λ_=>rfl) zR ∅ aO (λA ι q s Q E R h=>cT C R ∅ lI ∅ h) aa ∅ ∅ ∅)) (al (au (ax C aa bE bZ) )) aI) (ak (bK (dy (lW C (X:=ka) (λ_=>rfl) Bm ∅ aO (λA ι q s Q E R h=>cT C R ∅ n8 ∅ h) aa ∅ ∅ ∅)) (al (au (ax C aa bE bZ) )) aI) (ak (bK (dy (lW C (X:=ka) (λ_=>rfl) zS ∅ aO (λA ι q s Q E R h=>cT C R ∅ fD ∅ h) aa ∅ ∅ ∅)) (al (au (ax C aa bE bZ) )) aI) (ak (bK (dy (lW C (X:=ka) (λ_=>rfl) yh ∅ aO (λA ι q s Q E R h=>cT C R ∅ dJ ∅ h) aa ∅ ∅ ∅)) (al (au (ax C aa bE bZ) )) aI) (ak (bK (dy (lW C (X:=ka) (λ_=>rfl) Bo ∅ aO (λA ι q s Q E R h=>cT C R ∅ gy ∅ h) aa ∅ ∅ ∅)) (al (au (ax C aa bE bZ) )) aI) (ak (bK (dy (lW C (X:=ka) (λ_=>rfl) uq ∅ aO (λA ι q s Q E R h=>cT C R ∅ gG ∅ h) aa ∅ ∅ ∅)) (al (au (ax C aa bE bZ) )) aI) (ak (bK (dy (lW C (X:=ka) (λ_=>rfl) Bn ∅ aO (λA ι q s Q E R h=>cT C R ∅ ry ∅ h) aa ∅ ∅ ∅)) (al (au (ax C aa bE bZ) )) aI) (al (aJ aa))))))))))))) (al (aJ bE)))
def o4:Cm Fl:=((aL "Room" "empty_pages" (b9) (af "self") am).b (aQ "pages"))
def oI:Cm Fl:=((vN false rY ((af "self").b (aC "racks")) (af "page")).b pY)
def wt:Cm Fl:=(((af "pages").b (d5)).b (fc (a9 "page") (oI)))
def wu:Cm Fl:=(((ag (af "pages") am).b (eW)).b aK)
def sB:Cm Fl:=(aw (o4) (aw (wt) (wu)))
def mU:Fc:=gD ["self"] (sB)
theorem Ap:FX 3 237 (mU) :=
 bW.of C (k:=2) (iI ⟨_,_,_,rfl⟩ (B0 λ_=>∅) ∅ rfl) λL =>
 (ak (au (aM C c9 (dN C) aa aj ∅ ∅ rfl rfl ∅ ∅) ) (ak (fb (bX C (.name _ _) aa) bH (al (fM (pT C false xR (AY C) (aE C aV aa) aa rfl rfl ∅ ∅ ∅)))) (al (aJ (cq C (ae aa aj) (iL C) ∅ ∅ ∅ ∅ ∅ ∅)))))
def wJ:Cm Fl:=((((af "_law_found_here").b (mG "int")).b λv7=>(bi v7).b λb8=>if b8 then (((af "_law_found_here").b (mG "bool")).b λv5=>(bi v5).b λb6=>Cm.p (V.bool (!b6))) else Cm.p v7).b aK)
def zY:Cm Fl:=(wJ)
def gM:Fc:=gD ["_law_found_here"] (zY)
theorem nz:FX 1 353 (gM) :=
 bW.of C (k:=0) (iI ⟨_,_,_,rfl⟩ (B0 λ_=>∅) ∅ rfl) λL =>
 (al (aJ (iN (mL (pU C yg ∅ aO ∅ By ∅ ∅ ∅ aa ∅ ∅) (pj (BS (pU C uo ∅ aO ∅ yp ∅ ∅ ∅ aa ∅ ∅)))))))
def pd:Cm Fl:=(((ag (af "_law_sizes") (ag (af "_law_wish") am)).b (br (fg))).b (aQ "_law_size"))
def pe:Cm Fl:=(Az ((aL "Room" "wish" (cD) (af "_law_room") (ag (af "_law_wish") am)).b (aQ "_law_place")) (λc=>if c = "TooLarge" then ((pn .Eq (af "_law_size") (aq 0)).b aK) else if c = "NoRoom" then ((pn .Gt (af "_law_size") (aq 0)).b aK) else Cm.stk))
def wA:Cm Fl:=((vN true ju (af "_law_out") ((ag (af "_law_place") (ag (af "_law_size") am)).b mH)).b pY)
def wB:Cm Fl:=((((ag (af "_law_place") am).b (br (gM))).b λv35=>(bi v35).b λb36=>if b36 then (pn .Gt (af "_law_size") (aq 0)) else Cm.p v35).b aK)
def jH:Cm Fl:=(aw (pd) (aw (pe) (aw (wA) (wB))))
def jA:Fc:=gD ["_law_room", "_law_sizes", "_law_out", "_law_wish"] (jH)
theorem sN:FX 5 395 (jA) :=
 bW.of C (k:=4) (iI ⟨_,_,_,rfl⟩ (HW λ_ _ _ _=>∅) ∅ rfl) λL =>
 (ak (au (bC C (o3 C) (ae aa (ae aa aj)) ∅ ∅ ∅ ∅ ∅ ∅) ) (ak (Ed (al (au (aM C nk (sL C) aa (ae aa aj) ∅ ∅ rfl rfl ∅ ∅) )) (λc=>(iW (He (a:=61) C ∅ dJ ∅ ∅ ∅ (al (aJ (wL C aa ar)))) (iW (iO (a:=85) C ∅ dJ ∅ ∅ ∅ (He (a:=85) C ∅ n8 ∅ ∅ ∅ (al (aJ (wL C aa ar))))) Bj)))) (ak (fM (pT C true nX (pW C) aa (fj (ae aa (ae aa aj))) rfl rfl ∅ ∅ ∅)) (al (aJ (iN (mL (bC C (nz C) (ae aa aj) ∅ ∅ ∅ ∅ ∅ ∅) (pj (wL C aa ar)))))))))
def wE:Cm Fl:=(((((af "_law_found_here").b (mG "list")).b bi).b fe).b (aB ((Cm.p (V.bool false)).b aK) bL))
def oK:Cm Fl:=(aw ((((((af "_law_pair").b (mG "tuple")).b bi).b fe).b (aB (Cm.p true) ((aZ .NotEq ((ag (af "_law_pair") am).b (eW)) (aq 2)).b (aB (Cm.p true) (Cm.p false))))).b (aB ((Cm.p (V.bool false)).b aK) bL)) ((((((ag (az (af "_law_pair") (aq 0)) am).b (br (gM))).b bi).b fe).b (aB (Cm.p true) (((((ag (az (af "_law_pair") (aq 1)) am).b (br (gM))).b bi).b fe).b (aB (Cm.p true) (Cm.p false))))).b (aB ((Cm.p (V.bool false)).b aK) bL)))
def wF:Cm Fl:=(((af "_law_found_here").b (d5)).b (fc (a9 "_law_pair") (oK)))
def wG:Cm Fl:=((Cm.p (V.bool true)).b aK)
def sE:Cm Fl:=(aw (wE) (aw (wF) (wG)))
def jC:Fc:=gD ["_law_found_here"] (sE)
theorem sO:FX 2 381 (jC) :=
 bW.of C (k:=1) (iI ⟨_,_,_,rfl⟩ (B0 λ_=>∅) ∅ rfl) λL =>
 (ak (bK (eZ (dy (pU C zQ ∅ aO ∅ Cz ∅ ∅ ∅ aa ∅ ∅))) (al (aJ cI)) aI) (ak (fb (bX C (.name _ _) aa) bH (ak (bK (d9 (eY (eZ (dy (pU C Dp ∅ aO ∅ E4 ∅ ∅ ∅ aa ∅ ∅))) (eY (ba C (cq C (ae aa aj) (iL C) ∅ ∅ ∅ ∅ ∅ ∅) ar) jQ))) (al (aJ cI)) aI) (al (bK (d9 (eY (eZ (dy (bC C (nz C) (ae (aP C aa ar) aj) ∅ ∅ ∅ ∅ ∅ ∅))) (eY (eZ (dy (bC C (nz C) (ae (aP C aa ar) aj) ∅ ∅ ∅ ∅ ∅ ∅))) jQ))) (al (aJ cI)) aI)))) (al (aJ cI))))
def rJ:Cm Fl:=((aL "Room" "gather" (dZ) (af "_law_room") (ag (af "_law_size") am)).b (aQ "_law_moves"))
def rK:Cm Fl:=(((((ag (af "_law_moves") am).b (br (jC))).b bi).b fe).b (aB ((Cm.p (V.bool false)).b aK) bL))
def gr:Cm Fl:=(aw ((aZ .NotIn ((ag (az (af "_law_move") (aq 0)) (ag (af "_law_size") am)).b mH) (af "_law_out")).b (aB ((Cm.p (V.bool false)).b aK) bL)) (((ag (az (af "_law_move") (aq 1)) (ag (af "_law_size") am)).b mH).b (po (af "_law_out") (vN true ye (af "_law_out") ((ag (az (af "_law_move") (aq 0)) (ag (af "_law_size") am)).b mH)))))
def rL:Cm Fl:=(((af "_law_moves").b (d5)).b (fc (a9 "_law_move") (gr)))
def rM:Cm Fl:=((Cm.p (V.bool true)).b aK)
def m5:Cm Fl:=(aw (rJ) (aw (rK) (aw (rL) (rM))))
def iS:Fc:=gD ["_law_room", "_law_size", "_law_out"] (m5)
theorem uZ:FX 4 388 (iS) :=
 bW.of C (k:=3) (iI ⟨_,_,_,rfl⟩ (HV λ_ _ _=>∅) ∅ rfl) λL =>
 (ak (au (aM C ku (oZ C) aa (ae aa aj) ∅ ∅ rfl rfl ∅ ∅) ) (ak (bK (eZ (dy (bC C (sO C) (ae aa aj) ∅ ∅ ∅ ∅ ∅ ∅))) (al (aJ cI)) aI) (ak (fb (bX C (.name _ _) aa) bH (ak (bK (ba C (fj (ae (aP C aa ar) (ae aa aj))) aa) (al (aJ cI)) aI) (al (gq C (fj (ae (aP C aa ar) (ae aa aj))) aa (pT C true Ei (Ga C) aa (fj (ae (aP C aa ar) (ae aa aj))) rfl rfl ∅ ∅ ∅) rfl)))) (al (aJ cI)))))
def qM:Cm Fl:=((av dR (af "_law_cell") (aq 8)).b (aQ "_law_more"))
def lP:Cm Fl:=((aZ .Lt (av bD (af "_law_cell") (aq 8)) (aq 3)).b (aB (((ag (af "_law_room") (ag (af "_law_sizes") (ag (af "_law_out") (ag (av cS (aq 1) (av bD (af "_law_more") (af "_law_length"))) am)))).b (br (jA))).b aK) bL))
def lu:Cm Fl:=(((((ag (af "_law_room") (ag (af "_law_sizes") (ag (af "_law_out") (ag (av cS (aq 1) (av bD (af "_law_more") (af "_law_length"))) am)))).b (br (jA))).b bi).b fe).b (aB ((Cm.p (V.bool false)).b aK) bL))
def lQ:Cm Fl:=((aZ .Lt (av bD (af "_law_cell") (aq 8)) (aq 5)).b (aB (aw (((ag (av cS (aq 1) (av bD (av dR (af "_law_more") (aq 2)) (aq 6))) am).b fE).b (fc (a9 "_law_turn") (lu))) ((Cm.p (V.bool true)).b aK)) bL))
def iD:Cm Fl:=((aZ .Lt (av bD (af "_law_cell") (aq 8)) (aq 7)).b (aB (aw ((aZ .NotEq (af "_law_out") (am.b dr)).b (aB ((aL "Room" "give_back" (cc) (af "_law_room") (ag (az (vN true Fo (af "_law_out") (av bD (af "_law_more") ((ag (af "_law_out") am).b (eW)))) (aq 0)) am)).b pY) bL)) ((Cm.p (V.bool true)).b aK)) bL))
def lR:Cm Fl:=((aZ .Eq (av bD (af "_law_more") (aq 3)) (aq 0)).b (aB (aw ((aL "Room" "trim" (mU) (af "_law_room") am).b pY) ((Cm.p (V.bool true)).b aK)) bL))
def qN:Cm Fl:=(((ag (af "_law_room") (ag (az (af "_law_sizes") (av bD (av dR (af "_law_more") (aq 3)) ((ag (af "_law_sizes") am).b (eW)))) (ag (af "_law_out") am))).b (br (iS))).b aK)
def uD:Cm Fl:=(aw (qM) (aw (lP) (aw (lQ) (aw (iD) (aw (lR) (qN))))))
def pC:Fc:=gD ["_law_room", "_law_length", "_law_sizes", "_law_out", "_law_cell"] (uD)
theorem BD:FX 6 402 (pC) :=
 bW.of C (k:=5) (iI ⟨_,_,_,rfl⟩ (JI λ_ _ _ _ _=>∅) ∅ rfl) λL =>
 (ak (au (ax C aa ar fG) ) (ak (bK (ba C (ax C aa ar bM) ar) (al (aJ (bC C (sN C) (ae aa (ae aa (ae aa (ae (ax C ar (ax C aa aa bM) bZ) aj)))) ∅ ∅ ∅ ∅ ∅ ∅))) aI) (ak (bK (ba C (ax C aa ar bM) ar) (ak (fb (nU C ∅ ky (ae (ax C ar (ax C (ax C aa ar fG) ar bM) bZ) aj) ∅) bH (al (bK (eZ (dy (bC C (sN C) (ae aa (ae aa (ae aa (ae (ax C ar (ax C aa aa bM) bZ) aj)))) ∅ ∅ ∅ ∅ ∅ ∅))) (al (aJ cI)) aI))) (al (aJ cI))) aI) (ak (bK (ba C (ax C aa ar bM) ar) (ak (bK (ba C aa (cC aj)) (al (fM (aM C ij (kJ C) aa (ae (aP C (pT C true HU (Jf C) aa (ax C aa (cq C (ae aa aj) (iL C) ∅ ∅ ∅ ∅ ∅ ∅) bM) rfl rfl ∅ ∅ ∅) ar) aj) ∅ ∅ rfl rfl ∅ ∅))) aI) (al (aJ cI))) aI) (ak (bK (ba C (ax C aa ar bM) ar) (ak (fM (aM C uH (Ap C) aa aj ∅ ∅ rfl rfl ∅ ∅)) (al (aJ cI))) aI) (al (aJ (bC C (uZ C) (ae aa (ae (aP C aa (ax C (ax C aa ar fG) (cq C (ae aa aj) (iL C) ∅ ∅ ∅ ∅ ∅ ∅) bM)) (ae aa aj))) ∅ ∅ ∅ ∅ ∅ ∅))))))))
def tC:Cm Fl:=((am.b dr).b (aQ "_law_out"))
def gV:Cm Fl:=(((((ag (af "_law_room") (ag (af "_law_length") (ag (af "_law_sizes") (ag (af "_law_out") (ag (af "_law_cell") am))))).b (br (pC))).b bi).b fe).b (aB ((Cm.p V.none).b aK) bL))
def tD:Cm Fl:=(((af "_law_cells").b (d5)).b (fc (a9 "_law_cell") (gV)))
def tE:Cm Fl:=((af "_law_out").b aK)
def oU:Cm Fl:=(aw (tC) (aw (tD) (tE)))
def jV:Fc:=gD ["_law_cells", "_law_room", "_law_length", "_law_sizes"] (oU)
theorem vY:FX 7 409 (jV) :=
 bW.of C (k:=6) (iI ⟨_,_,_,rfl⟩ (HW λ_ _ _ _=>∅) ∅ rfl) λL =>
 (ak (au (cC aj) ) (ak (fb (bX C (.name _ _) aa) bH (al (bK (eZ (dy (bC C (BD C) (ae aa (ae aa (ae aa (ae aa (ae aa aj))))) ∅ ∅ ∅ ∅ ∅ ∅))) (al (aJ mM)) aI))) (al (aJ aa))))
def kQ:Cm Fl:=((av dR (af "_law_cell") (aq 2)).b (aQ "_law_more"))
def gA:Cm Fl:=((aZ .Eq (af "_law_way") (aq 5)).b (aB (aw ((aZ .Eq (av bD (af "_law_cell") (aq 2)) (aq 1)).b (aB ((az (az (af "_law_drawn") (aq 2)) (av bD (af "_law_more") ((ag (az (af "_law_drawn") (aq 2)) am).b (eW)))).b aK) bL)) (aw ((aZ .Gt (av bD (af "_law_more") (aq 9)) (aq 5)).b (aB ((az ((ag (Cm.p (V.bool true)) (ag (Cm.p (V.str "1")) (ag (Cm.p V.none) am))).b dr) (av wb (av bD (af "_law_more") (aq 9)) (aq 6))).b aK) bL)) ((av bD (av dR (af "_law_more") (aq 9)) (aq 63)).b aK))) bL))
def gB:Cm Fl:=(((aZ .Eq (av bD (af "_law_cell") (aq 2)) (aq 1)).b (aB ((aZ .NotEq (af "_law_out") (am.b dr)).b (aB (Cm.p true) (Cm.p false))) (Cm.p false))).b (aB ((az (az (af "_law_out") (av bD (af "_law_more") ((ag (af "_law_out") am).b (eW)))) (aq 0)).b aK) bL))
def kT:Cm Fl:=((av wb (av bD (af "_law_more") (av cS (av gx (az (af "_law_drawn") (aq 0)) (az (af "_law_drawn") (aq 1))) (aq 7))) (aq 3)).b aK)
def ng:Cm Fl:=(aw (kQ) (aw (gA) (aw (gB) (kT))))
def dA:Fc:=gD ["_law_cell", "_law_drawn", "_law_out", "_law_way"] (ng)
theorem u0:FX 1 451 (dA) :=
 bW.of C (k:=0) (iI ⟨_,_,_,rfl⟩ (HW λ_ _ _ _=>∅) ∅ rfl) λL =>
 (ak (au (ax C aa ar fG) ) (ak (bK (ba C aa ar) (ak (bK (ba C (ax C aa ar bM) ar) (al (aJ (aP C (aP C aa ar) (ax C aa (cq C (ae (aP C aa ar) aj) (iL C) ∅ ∅ ∅ ∅ ∅ ∅) bM)))) aI) (ak (bK (ba C (ax C aa ar bM) ar) (al (aJ (aP C (cC (ae cI (ae bE (ae mM aj)))) (ax C (ax C aa ar bM) ar pX)))) aI) (al (aJ (ax C (ax C aa ar fG) ar bM))))) aI) (ak (bK (d9 (fy (ba C (ax C aa ar bM) ar) (fy (ba C aa (cC aj)) lh))) (al (aJ (aP C (aP C aa (ax C aa (cq C (ae aa aj) (iL C) ∅ ∅ ∅ ∅ ∅ ∅) bM)) ar))) aI) (al (aJ (ax C (ax C aa (ax C (ax C (aP C aa ar) (aP C aa ar) mO) ar bZ) bM) ar pX))))))
def rN:Cm Fl:=((am.b dr).b (aQ "_law_found_here"))
def rO:Cm Fl:=((aq 0).b (aQ "_law_before"))
def rP:Cm Fl:=((av dR (af "_law_cell") (aq 3)).b (aQ "_law_rest"))
def rQ:Cm Fl:=((aq 4).b (aQ "_law_span"))
def kW:Cm Fl:=((aZ .Eq (av bD (af "_law_cell") (aq 3)) (aq 0)).b (aB ((af "_law_length").b (aQ "_law_span")) bL))
def ki:Cm Fl:=(aw ((av cS (av cS (af "_law_before") (aq 1)) (av bD (af "_law_rest") (af "_law_span"))).b (aQ "_law_before")) (aw ((av dR (af "_law_rest") (af "_law_span")).b (aQ "_law_rest")) ((aZ .LtE (af "_law_before") (af "_law_length")).b (aB ((vN true ju (af "_law_found_here") (af "_law_before")).b pY) bL))))
def rR:Cm Fl:=(((ag (af "_law_many") am).b fE).b (fc (a9 "_law_turn") (ki)))
def kZ:Cm Fl:=((aZ .Eq (af "_law_found_here") (am.b dr)).b (aB ((vN true ju (af "_law_found_here") (af "_law_length")).b pY) bL))
def rS:Cm Fl:=((af "_law_found_here").b aK)
def nh:Cm Fl:=(aw (rN) (aw (rO) (aw (rP) (aw (rQ) (aw (kW) (aw (rR) (aw (kZ) (rS))))))))
def iT:Fc:=gD ["_law_cell", "_law_length", "_law_many"] (nh)
theorem u5:FX 1 360 (iT) :=
 bW.of C (k:=0) (iI ⟨_,_,_,rfl⟩ (HV λ_ _ _=>∅) ∅ rfl) λL =>
 (ak (au (cC aj) ) (ak (au ar ) (ak (au (ax C aa ar fG) ) (ak (au ar ) (ak (bK (ba C (ax C aa ar bM) ar) (al (au aa )) aI) (ak (fb (nU C ∅ ky (ae aa aj) ∅) bH (ak (au (ax C (ax C aa ar bZ) (ax C aa aa bM) bZ) ) (ak (au (ax C aa aa fG) ) (al (bK (ba C aa aa) (al (fM (pT C true nX (pW C) aa aa rfl rfl ∅ ∅ ∅))) aI))))) (ak (bK (ba C aa (cC aj)) (al (fM (pT C true nX (pW C) aa aa rfl rfl ∅ ∅ ∅))) aI) (al (aJ aa)))))))))
def mz:Cm Fl:=(((ag (af "_law_script") (ag (aq 0) am)).b (br (bR))).b (aQ "_law_first"))
def mA:Cm Fl:=(((ag (af "_law_script") (ag (aq 1) am)).b (br (bR))).b (aQ "_law_second"))
def mB:Cm Fl:=((av cS (aq 1) (av bD (af "_law_first") (aq 6))).b (aQ "_law_pages"))
def mC:Cm Fl:=((av cS (aq 1) (av bD (af "_law_second") (aq 12))).b (aQ "_law_length"))
def tF:Cm Fl:=((aZ .Eq (av bD (av dR (af "_law_first") (aq 6)) (aq 8)) (aq 1)).b (aB (aw ((av cS (aq 1) (av bD (av dR (af "_law_first") (aq 48)) (aq 40))).b (aQ "_law_pages")) ((av cS (aq 1) (av bD (af "_law_second") (aq 4))).b (aQ "_law_length"))) bL))
def tG:Cm Fl:=((aZ .Eq (av bD (av dR (af "_law_first") (aq 6)) (aq 8)) (aq 2)).b (aB (aw ((av cS (aq 1) (av bD (av dR (af "_law_first") (aq 48)) (aq 2))).b (aQ "_law_pages")) ((av cS (aq 1) (av bD (af "_law_second") (aq 60))).b (aQ "_law_length"))) bL))
def tH:Cm Fl:=((aZ .Eq (av bD (av dR (af "_law_first") (aq 6)) (aq 8)) (aq 3)).b (aB (aw ((av cS (aq 1) (av bD (av dR (af "_law_first") (aq 48)) (aq 40))).b (aQ "_law_pages")) ((av cS (aq 1) (av bD (af "_law_second") (aq 60))).b (aQ "_law_length"))) bL))
def tI:Cm Fl:=(((ag (af "_law_pages") (ag (af "_law_length") (ag ((ag ((ag (af "_law_script") (ag (aq 2) am)).b (br (bR))) (ag (af "_law_length") (ag (av cS (aq 1) (av bD ((ag (af "_law_script") (ag (aq 3) am)).b (br (bR))) (aq 8))) am))).b (br (iT))) am))).b mH).b aK)
def oV:Cm Fl:=(aw (mz) (aw (mA) (aw (mB) (aw (mC) (aw (tF) (aw (tG) (aw (tH) (tI))))))))
def jW:Fc:=gD ["_law_script"] (oV)
theorem vZ:FX 2 367 (jW) :=
 bW.of C (k:=1) (iI ⟨_,_,_,rfl⟩ (B0 λ_=>∅) ∅ rfl) λL =>
 (ak (au (bC C (cR C) (ae aa (ae ar aj)) ∅ ∅ ∅ ∅ ∅ ∅) ) (ak (au (bC C (cR C) (ae aa (ae ar aj)) ∅ ∅ ∅ ∅ ∅ ∅) ) (ak (au (ax C ar (ax C aa ar bM) bZ) ) (ak (au (ax C ar (ax C aa ar bM) bZ) ) (ak (bK (ba C (ax C (ax C aa ar fG) ar bM) ar) (ak (au (ax C ar (ax C (ax C aa ar fG) ar bM) bZ) ) (al (au (ax C ar (ax C aa ar bM) bZ) ))) aI) (ak (bK (ba C (ax C (ax C aa ar fG) ar bM) ar) (ak (au (ax C ar (ax C (ax C aa ar fG) ar bM) bZ) ) (al (au (ax C ar (ax C aa ar bM) bZ) ))) aI) (ak (bK (ba C (ax C (ax C aa ar fG) ar bM) ar) (ak (au (ax C ar (ax C (ax C aa ar fG) ar bM) bZ) ) (al (au (ax C ar (ax C aa ar bM) bZ) ))) aI) (al (aJ (fj (ae aa (ae aa (ae (bC C (u5 C) (ae (bC C (cR C) (ae aa (ae ar aj)) ∅ ∅ ∅ ∅ ∅ ∅) (ae aa (ae (ax C ar (ax C (bC C (cR C) (ae aa (ae ar aj)) ∅ ∅ ∅ ∅ ∅ ∅) ar bM) bZ) aj))) ∅ ∅ ∅ ∅ ∅ ∅) aj)))))))))))))
def jS:Cm Fl:=(((aZ .NotEq (aL "Room" "read" (dH) (af "_law_room") (ag (az (af "_law_pair") (aq 0)) (ag (aq 0) am))) (av cS (av gx (az (af "_law_pair") (aq 0)) (aq 61)) (aq 1))).b (aB (Cm.p true) ((aZ .NotEq (aL "Room" "read" (dH) (af "_law_room") (ag (az (af "_law_pair") (aq 0)) (ag (av wb (az (af "_law_pair") (aq 1)) (aq 1)) am))) (av cS (av gx (az (af "_law_pair") (aq 0)) (aq 61)) (az (af "_law_pair") (aq 1)))).b (aB (Cm.p true) (Cm.p false))))).b (aB ((Cm.p (V.bool false)).b aK) bL))
def wH:Cm Fl:=(((af "_law_out").b (d5)).b (fc (a9 "_law_pair") (jS)))
def wI:Cm Fl:=((Cm.p (V.bool true)).b aK)
def sF:Cm Fl:=(aw (wH) (wI))
def mV:Fc:=gD ["_law_room", "_law_out"] (sF)
theorem Ar:FX 5 458 (mV) :=
 bW.of C (k:=4) (iI ⟨_,_,_,rfl⟩ (A0 λ_ _=>∅) ∅ rfl) λL =>
 (ak (fb (bX C (.name _ _) aa) bH (al (bK (d9 (eY (ba C (aM C jb (nx C) aa (ae (aP C aa ar) (ae ar aj)) ∅ ∅ rfl rfl ∅ ∅) (ax C (ax C (aP C aa ar) ar mO) ar bZ)) (eY (ba C (aM C jb (nx C) aa (ae (aP C aa ar) (ae (ax C (aP C aa ar) ar pX) aj)) ∅ ∅ rfl rfl ∅ ∅) (ax C (ax C (aP C aa ar) ar mO) (aP C aa ar) bZ)) jQ))) (al (aJ cI)) aI))) (al (aJ cI)))
def tK:Cm Fl:=((aq 4).b (aQ "_law_size"))
def fo:Cm Fl:=((aZ .Eq (az (af "_law_pair") (aq 0)) (af "_law_place")).b (aB ((az (af "_law_pair") (aq 1)).b (aQ "_law_size")) bL))
def tL:Cm Fl:=(((af "_law_out").b (d5)).b (fc (a9 "_law_pair") (fo)))
def tM:Cm Fl:=((az ((ag (af "_law_size") (ag (av wb (af "_law_size") (aq 1)) (ag ((aq 1).b Dx) (ag (aq 0) (ag (av cS (af "_law_size") (aq 1)) (ag (av wb (av bD (av dR (af "_law_cell") (aq 6)) (aq 64)) (aq 2)) am)))))).b dr) (av bD (af "_law_cell") (aq 6))).b aK)
def oX:Cm Fl:=(aw (tK) (aw (tL) (tM)))
def jX:Fc:=gD ["_law_out", "_law_place", "_law_cell"] (oX)
theorem wa:FX 1 416 (jX) :=
 bW.of C (k:=0) (iI ⟨_,_,_,rfl⟩ (HV λ_ _ _=>∅) ∅ rfl) λL =>
 (ak (au ar ) (ak (fb (bX C (.name _ _) aa) bH (al (bK (ba C (aP C aa ar) aa) (al (au (aP C aa ar) )) aI))) (al (aJ (aP C (cC (ae aa (ae (ax C aa ar pX) (ae (y8 ar) (ae ar (ae (ax C aa ar bZ) (ae (ax C (ax C (ax C aa ar fG) ar bM) ar pX) aj))))))) (ax C aa ar bM))))))
def CP:Cm Fl:=(((ag (af "_law_script") am).b (br (jW))).b (aQ "_law_drawn"))
def CQ:Cm Fl:=(((ag ((ag (az (af "_law_drawn") (aq 0)) (ag (az (af "_law_drawn") (aq 1)) (ag ((ag (az (af "_law_drawn") (aq 2)) am).b (gE)) am))).b (oY "Plan" (jx))) am).b (oY "Room" (jy))).b (aQ "_law_room"))
def CR:Cm Fl:=(((ag (av (zr) (af "_law_script") (aq 7)) (ag (af "_law_room") (ag (az (af "_law_drawn") (aq 1)) (ag (az (af "_law_drawn") (aq 2)) am)))).b (br (jV))).b (aQ "_law_out"))
def CS:Cm Fl:=((aZ .Is (af "_law_out") (Cm.p V.none)).b (aB ((Cm.p (V.bool false)).b aK) bL))
def yI:Cm Fl:=((av bD ((ag (af "_law_script") (ag (aq 4) am)).b (br (bR))) (aq 6)).b (aQ "_law_way"))
def yJ:Cm Fl:=(((ag (af "_law_script") (ag (aq 5) am)).b (br (bR))).b (aQ "_law_cell"))
def yK:Cm Fl:=(((ag ((ag (af "_law_script") (ag (aq 6) am)).b (br (bR))) (ag (af "_law_drawn") (ag (af "_law_out") (ag (af "_law_way") am)))).b (br (dA))).b (aQ "_law_place"))
def yL:Cm Fl:=(((ag (af "_law_out") (ag (af "_law_place") (ag (af "_law_cell") am))).b (br (jX))).b (aQ "_law_step_here"))
def yM:Cm Fl:=(((ag (az (af "_law_drawn") (aq 2)) (ag (af "_law_out") (ag (af "_law_way") (ag (af "_law_place") (ag (af "_law_step_here") (ag (af "_law_cell") am)))))).b (br (iH))).b (aQ "_law_due_here"))
def xP:Cm Fl:=(aw ((aL "Room" "write" (dj) (af "_law_room") (ag (az (af "_law_pair") (aq 0)) (ag (aq 0) (ag (av cS (av gx (az (af "_law_pair") (aq 0)) (aq 61)) (aq 1)) am)))).b pY) ((aL "Room" "write" (dj) (af "_law_room") (ag (az (af "_law_pair") (aq 0)) (ag (av wb (az (af "_law_pair") (aq 1)) (aq 1)) (ag (av cS (av gx (az (af "_law_pair") (aq 0)) (aq 61)) (az (af "_law_pair") (aq 1))) am)))).b pY))
def vD:Cm Fl:=(((af "_law_out").b (d5)).b (fc (a9 "_law_pair") (xP)))
def vE:Cm Fl:=(((ag ((ag (aL "Room" "shelves" (fS) (af "_law_room") am) am).b (gE)) (ag ((ag (aL "Room" "pile" (fH) (af "_law_room") am) am).b (gE)) am)).b mH).b (aQ "_law_before"))
def nO:Cm Fl:=(((aZ .NotEq (af "_law_due_here") (Cm.p (V.str ""))).b (aB ((aZ .Eq (av bD (av dR ((ag (af "_law_script") (ag (aq 4) am)).b (br (bR))) (aq 6)) (aq 2)) (aq 1)).b (aB (Cm.p true) (Cm.p false))) (Cm.p false))).b (aB ((aZ .NotEq ((ag (af "_law_room") (ag (af "_law_way") (ag (af "_law_place") (ag (af "_law_step_here") (ag (af "_law_cell") am))))).b (br (jU))) (af "_law_due_here")).b (aB ((Cm.p (V.bool false)).b aK) bL)) (aw (((ag (af "_law_room") (ag (af "_law_way") (ag (af "_law_place") (ag (af "_law_step_here") (ag (af "_law_cell") am))))).b (br (jB))).b (aQ "_law_found_here")) (((aZ .NotEq (af "_law_found_here") (af "_law_due_here")).b (aB ((((aZ .Eq (af "_law_found_here") (Cm.p (V.str "room"))).b (aB ((aZ .Eq (af "_law_way") (aq 0)).b (aB ((aZ .Eq (af "_law_due_here") (Cm.p (V.str ""))).b (aB (Cm.p true) (Cm.p false))) (Cm.p false))) (Cm.p false))).b fe).b (aB (Cm.p true) (Cm.p false))) (Cm.p false))).b (aB ((Cm.p (V.bool false)).b aK) bL)))))
def qI:Cm Fl:=(((aZ .Eq (af "_law_due_here") (Cm.p (V.str ""))).b (aB ((aZ .NotEq (af "_law_way") (aq 1)).b (aB (Cm.p true) (Cm.p false))) (Cm.p false))).b (aB ((Cm.p (V.bool true)).b aK) bL))
def qJ:Cm Fl:=((aL "Room" "things" (jT) (af "_law_room") am).b (aQ "_law_things"))
def qK:Cm Fl:=((((((ag (af "_law_things") am).b (br (jC))).b bi).b fe).b (aB (Cm.p true) ((aZ .NotEq (af "_law_things") ((ag (af "_law_out") am).b cN)).b (aB (Cm.p true) ((aZ .NotEq ((ag (aL "Room" "shelves" (fS) (af "_law_room") am) (ag (aL "Room" "pile" (fH) (af "_law_room") am) am)).b mH) (af "_law_before")).b (aB (Cm.p true) (Cm.p false))))))).b (aB ((Cm.p (V.bool false)).b aK) bL))
def qL:Cm Fl:=(((ag (af "_law_room") (ag (af "_law_out") am)).b (br (mV))).b aK)
def Ht:Cm Fl:=(aw (CP) (aw (CQ) (aw (CR) (aw (CS) (aw (yI) (aw (yJ) (aw (yK) (aw (yL) (aw (yM) (aw (vD) (aw (vE) (aw (nO) (aw (qI) (aw (qJ) (aw (qK) (qL))))))))))))))))
def Hn:Fc:=gD ["_law_script"] (Ht)
theorem JC:FX 8 465 (Hn) :=
 bW.of C (k:=7) (iI ⟨_,_,_,rfl⟩ (B0 λ_=>∅) ∅ rfl) λL =>
 (ak (au (bC C (vZ C) (ae aa aj) ∅ ∅ ∅ ∅ ∅ ∅) ) (ak (au (AW C ∅ GB Ds ∅ ∅ Bt Dm ∅ (Ao C) ∅ (ae (AW C ∅ Gz Dr ∅ ∅ Bs Dk ∅ (An C) ∅ (ae (aP C aa ar) (ae (aP C aa ar) (ae (cq C (ae (aP C aa ar) aj) (xJ C) ∅ ∅ ∅ ∅ ∅ ∅) aj))) ∅) aj) ∅) ) (ak (au (bC C (vY C) (ae (HF C aa ar) (ae aa (ae (aP C aa ar) (ae (aP C aa ar) aj)))) ∅ ∅ ∅ ∅ ∅ ∅) ) (ak (bK (ba C aa mM) (al (aJ cI)) aI) (ak (au (ax C (bC C (cR C) (ae aa (ae ar aj)) ∅ ∅ ∅ ∅ ∅ ∅) ar bM) ) (ak (au (bC C (cR C) (ae aa (ae ar aj)) ∅ ∅ ∅ ∅ ∅ ∅) ) (ak (au (bC C (u0 C) (ae (bC C (cR C) (ae aa (ae ar aj)) ∅ ∅ ∅ ∅ ∅ ∅) (ae aa (ae aa (ae aa aj)))) ∅ ∅ ∅ ∅ ∅ ∅) ) (ak (au (bC C (wa C) (ae aa (ae aa (ae aa aj))) ∅ ∅ ∅ ∅ ∅ ∅) ) (ak (au (bC C (DF C) (ae (aP C aa ar) (ae aa (ae aa (ae aa (ae aa (ae aa aj)))))) ∅ ∅ ∅ ∅ ∅ ∅) ) (ak (fb (bX C (.name _ _) aa) bH (ak (fM (aM C hU (lK C) aa (ae (aP C aa ar) (ae ar (ae (ax C (ax C (aP C aa ar) ar mO) ar bZ) aj))) ∅ ∅ rfl rfl ∅ ∅)) (al (fM (aM C hU (lK C) aa (ae (aP C aa ar) (ae (ax C (aP C aa ar) ar pX) (ae (ax C (ax C (aP C aa ar) ar mO) (aP C aa ar) bZ) aj))) ∅ ∅ rfl rfl ∅ ∅))))) (ak (au (fj (ae (cq C (ae (aM C jJ (ny C) aa aj ∅ ∅ rfl rfl ∅ ∅) aj) (xJ C) ∅ ∅ ∅ ∅ ∅ ∅) (ae (cq C (ae (aM C fZ (jL C) aa aj ∅ ∅ rfl rfl ∅ ∅) aj) (xJ C) ∅ ∅ ∅ ∅ ∅ ∅) aj))) ) (ak (bK (d9 (fy (ba C aa bE) (fy (ba C (ax C (ax C (bC C (cR C) (ae aa (ae ar aj)) ∅ ∅ ∅ ∅ ∅ ∅) ar fG) ar bM) ar) lh))) (al (bK (ba C (bC C (vX C) (ae aa (ae aa (ae aa (ae aa (ae aa aj))))) ∅ ∅ ∅ ∅ ∅ ∅) aa) (al (aJ cI)) aI)) (ak (au (bC C (Aq C) (ae aa (ae aa (ae aa (ae aa (ae aa aj))))) ∅ ∅ ∅ ∅ ∅ ∅) ) (al (bK (d9 (fy (ba C aa aa) (fy (eZ (d9 (fy (ba C aa bE) (fy (ba C aa ar) (fy (ba C aa bE) lh))))) lh))) (al (aJ cI)) aI)))) (ak (bK (d9 (fy (ba C aa bE) (fy (ba C aa ar) lh))) (al (aJ cI)) aI) (ak (au (aM C rt (vW C) aa aj ∅ ∅ rfl rfl ∅ ∅) ) (ak (bK (d9 (eY (eZ (dy (bC C (sO C) (ae aa aj) ∅ ∅ ∅ ∅ ∅ ∅))) (eY (ba C aa (cq C (ae aa aj) (iM C) ∅ ∅ ∅ ∅ ∅ ∅)) (eY (ba C (fj (ae (aM C jJ (ny C) aa aj ∅ ∅ rfl rfl ∅ ∅) (ae (aM C fZ (jL C) aa aj ∅ ∅ rfl rfl ∅ ∅) aj))) aa) jQ)))) (al (aJ cI)) aI) (al (aJ (bC C (Ar C) (ae aa (ae aa aj)) ∅ ∅ ∅ ∅ ∅ ∅))))))))))))))))))
end
theorem oE {P:Prop} (h:∀G:Prop,(P->G)->G):P:=h P id
section
variable {α β:Type} {q q':S} {l l':bw} {H H':Hp} {x y z:String} {v w u:V}
theorem bq {m:Cm α} {f:α->Cm β} {a:α} {r:qT S β} (h:m q= .ok a q') (k:f a q'=r):(m.b f) q=r:=by rw [qv,h];exact k
theorem g_a1 {m:Cm V} (h:m q= .ok v q'):ag m am q= .ok [v] q':=bq h rfl
theorem g_cons {m:Cm V} {k:Cm (List V)} {vs:List V} {q₂:S} (h:m q= .ok v q') (h':k q'= .ok vs q₂):ag m k q= .ok (v::vs) q₂:=bq h (bq h' rfl)
theorem g_item {m k:Cm V} {q₂:S} {r:qT S V} (h:m q= .ok v q') (h':k q'= .ok w q₂) (e:aR v w q₂=r):az m k q=r:=bq h (bq h' e)
theorem g_cmp {o:CmpOp} {m k:Cm V} {b:Bool} {q₂ q₃:S} (h:m q= .ok v q') (h':k q'= .ok w q₂) (e:dE o v w q₂= .ok b q₃):aZ o m k q= .ok b q₃:=bq h (bq h' (bq e rfl))
theorem g_cmpB {o:CmpOp} {m k:Cm V} {b:Bool} {q₂ q₃:S} (h:m q= .ok v q') (h':k q'= .ok w q₂) (e:dE o v w q₂= .ok b q₃):pn o m k q= .ok (.bool b) q₃:=bq h (bq h' (bq e rfl))
theorem g_bin {f:V->V->Cm V} {m k:Cm V} {q₂:S} {r:qT S V} (h:m q= .ok v q') (h':k q'= .ok w q₂) (e:f v w q₂=r):av f m k q=r:=bq h (bq h' e)
theorem g_meth {c f:String} {F:Fc} {m:Cm V} {k:Cm (List V)} {vs:List V} {q₂ q₃:S} {r:qT S V} (h:m q= .ok v q') (h':dI c f v q'= .ok () q₂) (h2:k q₂= .ok vs q₃) (e:br F (v::vs) q₃=r):aL c f F m k q=r:=bq h (bq h' (bq h2 e))
theorem g_bm {d:Bool} {f:V->V->Cm V} {m k:Cm V} {q₂ q₃:S} {r:qT S V} (h:m q= .ok v q') (h':gm v q'= .ok d q₂) (h2:k q₂= .ok w q₃) (e:f v w q₃=r):vN d f m k q=r:=bq h (bq h' ((congrFun (if_pos rfl) q₂).trans (bq h2 e)))
theorem g_st (e:upd l x v=l'):aQ x v ⟨l,H⟩= .ok .next ⟨l',H⟩:=by rw [<- e];rfl
theorem bx {m:Cm α} {f:α->Cm β} {c:String} (h:m q= .exc c q'):(m.b f) q= .exc c q':=by rw [qv,h]
theorem g_get (h:l x=some v):af x ⟨l,H⟩= .ok v ⟨l,H⟩:=by rw [Hu,h]
theorem g_set (e:upd l x v=l'):a9 x v ⟨l,H⟩= .ok () ⟨l',H⟩:=by rw [Ak,e]
theorem g_call {F:Fc} {vs:List V} (h:F vs H= .ok v H'):br F vs ⟨l,H⟩= .ok v ⟨l,H'⟩:=by rw [rC,h]
theorem cL {F:Fc} {vs:List V} {c:String} (h:F vs H= .exc c H'):br F vs ⟨l,H⟩= .exc c ⟨l,H'⟩:=by rw [rC,h]
theorem it_t {b:Bool} {m m':Cm α} {r:qT S α} (hb:b=true) (h:m q=r):(if b=true then m else m') q=r:=by rw [hb];exact h
theorem it_f {b:Bool} {m m':Cm α} {r:qT S α} (hb:b=false) (h:m' q=r):(if b=true then m else m') q=r:=by rw [hb];exact h
theorem it_k {b:Bool} {m m':Cm α} {r:qT S α} (hb:b=false) (h:m q=r):(if b=false then m else m') q=r:=by rw [hb];exact h
theorem gk {i j k:Int} (h:j≠0) (e:i.fdiv j=k):dR (.int i) (.int j) q= .ok (.int k) q:=by rw [<- e];exact congrFun (if_neg h) q
theorem cW {i j k:Int} (h:j≠0) (e:i.fmod j=k):bD (.int i) (.int j) q= .ok (.int k) q:=by rw [<- e];exact congrFun (if_neg h) q
theorem EM {n:Nat} {vs:List V} {i:Int} {v:V} {l:bw} (h:H[n]? = some (.list vs)) (h0:0<=i/\i<1000000) (hv:vs[i.toNat]? = some v):aR (.ref n) (.int i) ⟨l,H⟩= .ok v ⟨l,H⟩:=by unfold aR;dsimp only;rw [h];dsimp only;rw [if_pos h0,hv]
theorem Jj {i j:Nat} {xs ys:List V} {l:bw} (h1:H[i]? = some (.list xs)) (h2:H[j]? = some (.list ys)) (h:xs.length+ys.length<=1000000):cS (.ref i) (.ref j) ⟨l,H⟩= .ok (.ref H.length) ⟨l,H++[.list (xs++ys)]⟩:=by unfold cS;dsimp only;rw [h1,h2];dsimp only;rw [if_pos h]
theorem cA {i:Nat} {xs:List V} (h:H[i]? = some (.list xs)):ay (.ref i) H=some xs:=by unfold ay;dsimp only;rw [h]
theorem Jm {i:Nat} {xs:List V} (h:q.H[i]? = some (.list xs)) (hl:xs.length<1000000):eW [.ref i] q= .ok (.int xs.length) q:=by unfold eW;dsimp only;rw [h];exact if_pos hl
theorem fz {c f:String} {i:Nat} {fs:List (String×V)} (h:H[i]? = some (.flds fs)) (hv:fs.lookup f=some v):aC f (.inst c i) ⟨l,H⟩= .ok v ⟨l,H⟩:=by rw [Fs,h];dsimp only;rw [hv]
theorem xO {c f:String} {i:Nat} {fs:List (String×V)} (h:H[i]? = some (.flds fs)) (hl:fs.length<100):b0 f v (.inst c i) ⟨l,H⟩= .ok () ⟨l,H.set i (.flds (vP f v fs))⟩:=by rw [DC,h];exact if_pos hl
theorem lp {c f:String} {i:Nat} {fs:List (String×V)} {v:V} (h:H[i]? = some (.flds fs)) (hv:fs.lookup f=some v):aC f (.inst c i) ⟨l,H⟩= .ok v ⟨l,H⟩:=by rw [Fs,h];dsimp only;rw [hv]
theorem cZ {c f:String} {i:Nat} {fs:List (String×V)} (h:H[i]? = some (.flds fs)) (hv:fs.lookup f=none):dI c f (.inst c i) ⟨l,H⟩= .ok () ⟨l,H⟩:=by rw [Fu,if_pos rfl,h];dsimp only;rw [hv]
theorem nW {c f:String} {fs:List (String×V)} {os:List O} (hl:fs.length<100):b0 f v (.inst c H.length) ⟨l,H ++ .flds fs::os⟩= .ok () ⟨l,H ++ .flds (vP f v fs)::os⟩:=by
 rw [xO (by rw [aan (aaD _),Nat.sub_self];rfl) hl,List.set_append_right _ _ (aaD _),Nat.sub_self];rfl
theorem Cv {α:Type} {i:Nat} {a:α} {f:α->V} {k:Int} (h:H[i]? = some (.list [f a])) (hk:0<=k/\k<=1000000):gx (.ref i) (.int k) ⟨l,H⟩= .ok (.ref H.length) ⟨l,H++[.list ((List.replicate k.toNat a).map f)]⟩:=by
 haveI h2:∀n,(List.replicate n [f a]).flatten=(List.replicate n a).map f:=λn=>by
  induction n with
  | zero=>rfl
  | succ n ih=>rw [List.replicate_succ,List.flatten_cons,ih];rfl
 unfold gx;dsimp only;rw [h];dsimp only
 rw [if_pos ⟨rfl,hk⟩,h2]
theorem xV {n:Nat} {vs:List V} (h:H[n]? = some (.list (v::vs))):aR (.ref n) (.int 0) ⟨l,H⟩= .ok v ⟨l,H⟩:=by unfold aR;dsimp only;rw [h];rfl
theorem Al (a:Int) (n:Nat):bN a (n+1)= .int a::bN (a+1) n:=rfl
theorem xX (xs ys:List PyData):PyData.eqv (.tuple xs) (.tuple ys)=PyData.eqvAll xs ys:=rfl
theorem gL (x y:PyData) (xs ys:List PyData):PyData.eqvAll (x::xs) (y::ys)=(PyData.eqv x y&&PyData.eqvAll xs ys):=rfl
theorem rn {α β:Type} (f:α->Option β) (x:α) (xs:List α):dX f (x::xs)=(f x).bind λd=>(dX f xs).map (d :: ·):=rfl
theorem oQ {i j:Int} {b:Bool} (h:decide (i=j)=b):ko (.int i) (.int j) q= .ok b q:=by rw [nq,h]
theorem g_ceq {i j:Int} {b:Bool} (h:decide (i=j)=b):dE .Eq (.int i) (.int j) q= .ok b q:=oQ h
theorem g_cgt {i j:Int} {b:Bool} (h:decide (i>j)=b):dE .Gt (.int i) (.int j) q= .ok b q:=by rw [<- h];rfl
theorem g_clt {i j:Int} {b:Bool} (h:decide (i<j)=b):dE .Lt (.int i) (.int j) q= .ok b q:=by rw [<- h];rfl
theorem g_cle {i j:Int} {b:Bool} (h:decide (i<=j)=b):dE .LtE (.int i) (.int j) q= .ok b q:=by rw [<- h];rfl
theorem g_ceqv {b:Bool} (h:ko v w q= .ok b q):dE .Eq v w q= .ok b q:=h
theorem g_cin {b:Bool} (h:un v w q= .ok b q):dE .In v w q= .ok b q:=h
theorem g_pur {a b:α} (h:a=b):Cm.p a q= .ok b q:=by rw [h];rfl
theorem g_ne {b:Bool} (h:ko v w q= .ok b q):dE .NotEq v w q= .ok (!b) q:=bq h rfl
theorem g_nin {b:Bool} (h:un v w q= .ok b q):dE .NotIn v w q= .ok (!b) q:=bq h rfl
theorem g_nt2:mH [v,w] q= .ok (.tup [v,w]) q:=by unfold mH;rw [if_pos (by simp)];rfl
theorem g_nt3:mH [v,w,u] q= .ok (.tup [v,w,u]) q:=by unfold mH;rw [if_pos (by simp)];rfl
theorem g_nl0 (e:H++[.list []]=H'):dr [] ⟨l,H⟩= .ok (.ref H.length) ⟨l,H'⟩:=by rw [uR,if_pos (by simp),e]
theorem ah (e:upd l x v=l') (hn:y≠x) (b:l y=some w):l' y=some w:=by rw [<- e,ig _ _ hn];exact b
theorem aA (e:upd l x v=l'):l' x=some v:=by rw [<- e,lf]
theorem lT (e:upd (upd l x v) z u=l') (h1:y≠z) (h2:y≠x) (b:l y=some w):l' y=some w:=by rw [<- e,ig _ _ h1,ig _ _ h2];exact b
theorem yU (e:upd (upd l x v) z u=l') (h1:x≠z):l' x=some v:=by rw [<- e,ig _ _ h1,lf]
theorem gc {caps:List String} (hn:y≠x) (hm:y∈caps) (b:l y=some w):upd (fx caps l) x v y=some w:=by rw [ig _ _ hn,CK hm];exact b
end
local macro_rules
  | `(tactic| exists $xs,*) => do
    let x:=xs.getElems
    let y:=x
    let f <- `(tactic| with_reducible first $[| exact $x]* $[| exact $y _]*)
    let r <- `(tactic| exact rfl)
    let s <- `(tactic| skip)
    let b:=("g_a1 g_cons g_item g_cmp g_cmpB g_bin g_meth g_bm g_st bq g_nt2 g_nt3 g_get g_set g_call it_t it_f it_k g_ceq g_cgt g_clt g_cle g_ceqv g_cin g_ne g_nin g_nl0 g_pur it_t it_f it_k".splitOn " ").toArray.map λs=>Lean.mkIdent (.str `Mine.Lake s)
    let k := #[s,s,s,s,s,s,s,s,f,s,s,s]++Array.replicate 13 f ++ #[f,f,f,r,r,r]
    `(tactic| (apply Mine.Lake.bq) <;> repeat' (first $[| (with_reducible apply $b; $k:tactic)]* | $f:tactic | $r:tactic | apply Mine.Lake.bq | exact Mine.Lake.nq _ _ _))
noncomputable def cu (a:Int):List Bool->List Int
 | []=>[]
 | true::r=>a::cu (a+1) r
 | false::r=>cu (a+1) r
theorem GT (a:Int) (r:List Bool):cu a (true::r)=a::cu (a+1) r:=rfl
theorem GS (a:Int) (r:List Bool):cu a (false::r)=cu (a+1) r:=rfl
noncomputable def JA:V->Option V
 | .tup [.int i,.bool b]=>if b then some (.int i) else none
 | _=>none
theorem pA:∀(bs:List Bool) (a:Int),(gK a (bs.map V.bool)).filterMap JA=(cu a bs).map V.int
 | [],_=>rfl
 | false::r,a=>pA r (a+1)
 | true::r,a=>congrArg (V.int a :: ·) (pA r (a+1))
section
variable (H:Hp)
theorem gR (i:Int):nZ [.int i] H= .ok (.bool true) H:=rfl
theorem qQ (i:Int):gM [.int i] H= .ok (.bool true) H:=rfl
theorem j9 (i a b:Int):kq [.int i,.int a,.int b] H= .ok (.bool (decide (a<=i/\i<=b))) H:=by
 rw [Bool.decide_and]
 refine aU (m:=xk) (q:=⟨aF ["number", "least", "most"] [.int i,.int a,.int b],H⟩) rfl ?_
 cases h1:decide (a<=i)<;>exists gR H i,h1
theorem nQ (k:Int) (h0:0<=k) (h1:k<1000):∃c,bR [.scr,.int k] H= .ok (.int c) H:=by
 haveI h6:0<=k/\k<1000000:=⟨h0,by exact bQ 0xf4240a090003e8a0911 h1⟩
 by_cases h2:k<(sn.length:Int)
 ·have h3:k.toNat<sn.length:=by exact kx 0x1101fa10f0912 h2 (aaq h0)
  haveI h4:sn[k.toNat]? = some sn[k.toNat]:=aak h3
  haveI h5:∀q,aR .scr (.int k) q= .ok (.int sn[k.toNat]) q:=λq=>by unfold aR;dsimp only;rw [if_pos h6,h4]
  haveI h7:=decide_eq_true h2
  refine ⟨sn[k.toNat],aU (m:=j0) (q:=⟨aF ["_law_script", "_law_k"] [.scr,.int k],H⟩) rfl (bB ?_)⟩
  exists h7,h5
 ·haveI h7:=decide_eq_false h2
  refine ⟨0,aU (m:=j0) (q:=⟨aF ["_law_script", "_law_k"] [.scr,.int k],H⟩) rfl (ai (q':=⟨aF ["_law_script", "_law_k"] [.scr,.int k],H⟩) ?_ rfl)⟩
  exists h7
structure kh (len:Int) (xs:List Int):Prop where
 rise:xs.Pairwise (· < ·)
 low:∀x∈xs,1<=x
 top:∀x∈xs,x<=len
theorem kh.snoc {len b:Int} {xs:List Int} (h:kh len xs) (hb:∀x∈xs,x<b) (h1:1<=b) (h2:b<=len):kh len (xs++[b]):=by
 refine ⟨aar.mpr ⟨h.rise,by simp,λx hx y hy=> ?_⟩,λx hx=> ?_,λx hx=> ?_⟩
 ·simp at hy;subst hy;exact hb x hx
 ·rcases aao.mp hx with h3 | h3
  ·exact h.low x h3
  ·simp at h3;exact id (td 0x119801b1019812 h1 h3)
 ·rcases aao.mp hx with h3 | h3
  ·exact h.top x h3
  ·simp at h3;exact id (Hr 0x12802a110812 h2 h3)
theorem Hs {H:Hp} {l:bw} {i:Nat} {vs:List V} (h:H[i]? = some (.list vs)):gm (.ref i) ⟨l,H⟩= .ok true ⟨l,H⟩:=by rw [yt,h]
structure SB (o:Nat) (len span b r:Int) (l:bw):Prop where
 f:l "_law_found_here" = some (.ref o)
 b:l "_law_before" = some (.int b)
 r:l "_law_rest" = some (.int r)
 s:l "_law_span" = some (.int span)
 n:l "_law_length" = some (.int len)
theorem lU (len span:Int) (hs:1<=span):∀(ys:List V) (l:bw) (xs:List Int) (b r:Int),SB H.length len span b r l->kh len xs->(∀x∈xs,x<=b)->0<=b->xs.length+ys.length<=8 ->
  ∃l' xs',dS (λ_=>True) (a9 "_law_turn") (ki) ys ⟨l,H++[.list (xs.map V.int)]⟩= .ok .next ⟨l',H++[.list (xs'.map V.int)]⟩/\l' "_law_found_here" = some (.ref H.length)/\l' "_law_length" = some (.int len)/\kh len xs'/\xs'.length<=8
 | [],l,xs,b,r,hl,hx,_,_,h8=>⟨l,xs,rfl,hl.f,hl.n,hx,h8⟩
 | y::ys,l,xs,b,r,hl,hx,hb,h0,h8=>by
  refine oE λG kG=> ?_
  have m:=bj r span (by exact bQ 0x99019811 hs)
  refine bz (b+1+r.fmod span) λb' eb=> ?_
  refine bz (upd l "_law_turn" y) λl1 e1=> ?_
  refine bz (upd l1 "_law_before" (.int b')) λl2 e2=> ?_
  refine bz (upd l2 "_law_rest" (.int (r.fdiv span))) λl3 e3=> ?_
  have c3:=ah e1 ∅ hl.r
  have c4:=ah e1 ∅ hl.s
  have c5:=ah e2 ∅ c4
  have c6:=ah e3 ∅ (aA e2)
  have f:=ah e3 ∅ (ah e2 ∅ (ah e1 ∅ hl.f))
  have n:=ah e3 ∅ (ah e2 ∅ (ah e1 ∅ hl.n))
  have L3:SB H.length len span b' (r.fdiv span) l3:=⟨f,c6,aA e3,ah e3 ∅ c5,n⟩
  haveI md:∀q,bD (.int r) (.int span) q= .ok (.int (r.fmod span)) q:=λq=>cW (by exact λx9=>bQ 0x9096090a1019812 hs x9) rfl
  haveI dv:∀q,dR (.int r) (.int span) q= .ok (.int (r.fdiv span)) q:=λq=>gk (by exact λx9=>bQ 0x9096090a1019812 hs x9) rfl
  haveI ad:∀q,cS (.int (b+1)) (.int (r.fmod span)) q= .ok (.int b') q:=λq=>by rw [<- eb];rfl
  rw [aav] at h8
  have go:∀ {xs':List Int},(∀ {R:Cm Fl},R ⟨l3,H++[.list (xs.map V.int)]⟩= .ok .next ⟨l3,H++[.list (xs'.map V.int)]⟩->(aw ((((af "_law_before").b λv18=>(Cm.p (V.int 1)).b λv19=>cS v18 v19).b λv22=>((af "_law_rest").b λv20=>(af "_law_span").b λv21=>bD v20 v21).b λv23=>cS v22 v23).b λv24=>(a9 "_law_before" v24).b λ_=>Cm.p Fl.next) (aw (((af "_law_rest").b λv25=>(af "_law_span").b λv26=>dR v25 v26).b λv27=>(a9 "_law_rest" v27).b λ_=>Cm.p Fl.next) R)) ⟨l1,H++[.list (xs.map V.int)]⟩= .ok .next ⟨l3,H++[.list (xs'.map V.int)]⟩):=λ{xs'} {R} hR=>by
   refine ai (q':=⟨l2,H++[.list (xs.map V.int)]⟩) ?_ (ai (q':=⟨l3,H++[.list (xs.map V.int)]⟩) ?_ hR)
   ·exists ah e1 ∅ hl.b,c3,c4,md,ad,e2
   ·exists ah e2 ∅ c3,c5,dv,e3
  by_cases hle:b'<=len
  ·haveI k:decide (b'<=len)=true:=decide_eq_true hle
   obtain ⟨l',xs',t,z⟩:=lU len span hs ys l3 (xs++[b']) b' _ L3 (hx.snoc (λx hx=>by haveI:=hb x hx;exact id (Gl 0x239138120191cca1009813 m.1 eb this)) (by exact Hr 0x219821190cca110981009813 h0 m.1 eb) hle) (λx hm=>(aao.mp hm).elim (λhm=>by haveI:=hb x hm;exact id (Gl 0x238138120191cca1009813 m.1 eb this)) λhm=>by rw [aaj.mp hm];exact Int.le_refl _) (by exact Hr 0x209821190cca110981009813 h0 m.1 eb) (by rw [aad,aaV];exact id (cM 0x891190cc089191c0c011 h8))
   haveI ap:=qu (.int b') l3 (H++[.list (xs.map V.int)]) (aY _ _) (by rw [aai];exact id (cM 0xf4240a0189191c0c011 h8))
   haveI es:(H++[O.list (xs.map V.int)]).set H.length (.list (xs.map V.int++[.int b']))=H++[.list ((xs++[b']).map V.int)]:=by rw [xh,List.map_append];rfl
   rw [es] at ap
   refine kG ⟨l',xs',(cg (q':=⟨l3,H++[.list ((xs++[b']).map V.int)]⟩) (bq (g_set e1) (go ?_)) trivial).trans t,z⟩
   exists c6,n,k,f,Hs (aY _ _),ap
  ·haveI k:decide (b'<=len)=false:=decide_eq_false hle
   obtain ⟨l',xs',t,z⟩:=lU len span hs ys l3 xs b' _ L3 hx (λx hm=>by haveI:=hb x hm;exact id (Gl 0x238138120191cca1009813 m.1 eb this)) (by exact Hr 0x209821190cca110981009813 h0 m.1 eb) (by exact cM 0x8910c089191c0c011 h8)
   refine kG ⟨l',xs',(cg (q':=⟨l3,H++[.list (xs.map V.int)]⟩) (bq (g_set e1) (go ?_)) trivial).trans t,z⟩
   exists c6,n,k
theorem BM (c len many:Int) (h1:1<=len) (h2:1<=many) (h3:many<=8) :
  ∃v H',iT [.int c,.int len,.int many] H= .ok v H'/\ ∃xs,v= .ref H.length/\H<+:H'/\H'[H.length]? = some (.list (xs.map .int))/\kh len xs/\xs≠[]/\xs.length<=8:=by
 refine oE λG kG=> ?_
 refine bz (aF ["_law_cell", "_law_length", "_law_many"] [.int c,.int len,.int many]) λl0 e0=> ?_
 refine bz (upd l0 "_law_found_here" (.ref H.length)) λl1 e1=> ?_
 refine bz (upd l1 "_law_before" (.int 0)) λl2 e2=> ?_
 refine bz (upd l2 "_law_rest" (.int (c.fdiv 3))) λl3 e3=> ?_
 refine bz (upd l3 "_law_span" (.int 4)) λl4 e4=> ?_
 have k:∀ {x:String} {v:V},l0 x=some v->x∉["_law_found_here", "_law_before", "_law_rest", "_law_span"]->l2 x=some v/\l4 x=some v:=λ{x v} h hx=>by
  haveI n1:x ≠ "_law_found_here" := λe=>hx (e ▸ .head _)
  haveI n2:x ≠ "_law_before" := λe=>hx (e ▸ .tail _ (.head _))
  haveI n3:x ≠ "_law_rest" := λe=>hx (e ▸ .tail _ (.tail _ (.head _)))
  haveI n4:x ≠ "_law_span" := λe=>hx (e ▸ .tail _ (.tail _ (.tail _ (.head _))))
  have h2:=ah e2 n2 (ah e1 n1 h)
  exact ⟨h2,ah e4 n4 (ah e3 n3 h2)⟩
 have kc:=k (x := "_law_cell") (v:= .int c) (e0▸rfl) ∅
 have kn:=(k (x := "_law_length") (v:= .int len) (e0▸rfl) ∅).2
 have km:=(k (x := "_law_many") (v:= .int many) (e0▸rfl) ∅).2
 haveI d3:∀q,dR (.int c) (.int 3) q= .ok (.int (c.fdiv 3)) q:=λq=>gk ∅ rfl
 have m3:∀q,bD (.int c) (.int 3) q= .ok (.int (c.fmod 3)) q:=λq=>cW ∅ rfl
 have L4:SB H.length len 4 0 (c.fdiv 3) l4:=⟨ah e4 ∅ (ah e3 ∅ (ah e2 ∅ (aA e1))),ah e4 ∅ (ah e3 ∅ (aA e2)),ah e4 ∅ (aA e3),aA e4,kn⟩
 obtain ⟨span,l5,hs,L5,km5,t5⟩:∃span l5,1<=span/\SB H.length len span 0 (c.fdiv 3) l5/\l5 "_law_many" = some (.int many)/\kW ⟨l4,H++[.list []]⟩= .ok .next ⟨l5,H++[.list []]⟩:=by
  by_cases hc:c.fmod 3=0
  ·haveI kk:decide (c.fmod 3=0)=true:=decide_eq_true hc
   refine bz (upd l4 "_law_span" (.int len)) λl5 e5=> ?_
   refine ⟨len,l5,h1,⟨ah e5 ∅ L4.f,ah e5 ∅ L4.b,ah e5 ∅ L4.r,aA e5,ah e5 ∅ kn⟩,ah e5 ∅ km,?_⟩
   exists kc.2,m3,kk,kn,e5
  ·haveI kk:decide (c.fmod 3=0)=false:=decide_eq_false hc
   refine ⟨4,l4,by decide,L4,km,?_⟩
   exists kc.2,m3,kk
 obtain ⟨l6,xs,t6,i1,i5,i7,i10⟩:=lU H len span hs (bN 0 many.toNat) l5 [] 0 _ L5 ⟨.nil,λ_ h=>(nomatch h),λ_ h=>(nomatch h)⟩ (λ_ h=>(nomatch h)) (Int.le_refl _) (by rw [gH,List.length_nil];exact id (j5 0x89009c000fa1890812 h3 (aaq (bQ 0x98019811 h2))))
 haveI rv:=kz many ⟨l5,H++[.list []]⟩ ⟨by exact bQ 0xf4240a1b9019811 h2,by exact bQ 0xf4240a09890811 h3⟩
 have q0:=n9 (q:=⟨l6,H++[O.list (xs.map V.int)]++[O.list []]⟩) (i:=H.length) (j:=(H++[O.list (xs.map V.int)]).length) (xs:=xs) (ys:=[]) (aG ⟨_,rfl⟩ (aY _ _)) (aY _ _)
 have gv:∀ {ys:List Int},kZ ⟨l6,H++[.list (xs.map V.int)]⟩= .ok .next ⟨l6,H++[O.list (ys.map V.int)]++[O.list []]⟩->kh len ys->ys≠[]->ys.length<=8->G:=λ{ys} t7 s1 s2 s3=>by
  refine kG ⟨.ref H.length,H++[O.list (ys.map V.int)]++[O.list []],aU (m:=nh) (q:=⟨l6,H++[O.list (ys.map V.int)]++[O.list []]⟩) rfl ?_,ys,rfl,(aap _ _).trans (aap _ _),aG ⟨_,rfl⟩ (aY _ _),s1,s2,s3⟩
  rw [e0]
  refine ai (q':=⟨l1,H++[.list []]⟩) (bq (bq rfl (g_nl0 rfl)) (bq (g_set e1) rfl)) (ai (q':=⟨l2,H++[.list []]⟩) (bq rfl (bq (g_set e2) rfl)) (ai (q':=⟨l3,H++[.list []]⟩) ?_ (ai (q':=⟨l4,H++[.list []]⟩) (bq rfl (bq (g_set e4) rfl)) (ai t5 (ai (q':=⟨l6,H++[O.list (xs.map V.int)]⟩) (bq (a:=⟨bN 0 many.toNat,λ_=>True⟩) (q':=⟨l5,H++[O.list []]⟩) (bq (bq (g_get km5) (bq rfl rfl)) rv) t6) (ai t7 (bq (g_get i1) rfl)))))))
  exists kc.1,d3,e3
 by_cases hx:xs=[]
 ·subst hx
  haveI ap:=qu (.int len) l6 (H++[O.list []]++[O.list []]) (i:=H.length) (xs:=[]) (aG ⟨_,rfl⟩ (aY _ _)) ∅
  haveI es:(H++[O.list []]++[O.list []]).set H.length (.list ([]++[.int len]))=H++[.list ([len].map V.int)]++[O.list []]:=by rw [List.set_append_left _ _ (by rw [aad];exact Nat.lt_succ_self _),xh];rfl
  rw [es] at ap
  refine gv (ys:=[len]) ?_ ⟨aa8 _ _,λx hx=>by rw [aaj.mp hx];exact h1,λx hx=>by rw [aaj.mp hx];exact Int.le_refl _⟩ (List.cons_ne_nil _ _) (aa6 rfl)
  exact bq (bq (g_get i1) (bq (bq rfl (g_nl0 rfl)) (bq (g_ceqv q0) rfl))) (it_t rfl (bq (bq (g_get i1) (bq (Hs (aG ⟨_,rfl⟩ (aY H _))) (it_t rfl (bq (g_get i5) ap)))) rfl))
 ·rw [decide_eq_false hx] at q0
  refine gv (ys:=xs) ?_ i7 hx i10
  exists i1,q0
noncomputable def jd (p len:Int) (m:Nat):List (String×V):=[("pages",.int p),("length",.int len),("sizes",.ref m)]
theorem Fj (p len:Int) (m:Nat):(jd p len m).lookup "pages" = some (.int p):=rfl
theorem xq (p len:Int) (m:Nat):(jd p len m).lookup "length" = some (.int len):=rfl
theorem uP (p len:Int) (m:Nat):(jd p len m).lookup "sizes" = some (.ref m):=rfl
theorem ID (p len:Int) (m:Nat):(jd p len m).lookup "size_for" = none:=rfl
theorem Fk (p len:Int) (m:Nat):(jd p len m).lookup "per" = none:=rfl
structure AX (H:Hp) (i:Nat) (p len:Int) (xs:List Int):Prop where
 at':∃m,H[i]? = some (.flds (jd p len m))/\H[m]? = some (.list (xs.map V.int))
structure Ka (n j:Nat) (p len last:Int) (l:bw):Prop where
 la:l "last" = some (.int last)
 le:l "length" = some (.int len)
 se:l "self" = some (.inst "Plan" n)
 pa:l "pages" = some (.int p)
 si:l "sizes" = some (.ref j)
theorem sU (n j:Nat) (p len:Int) (zs:List V) (hj:ay (.ref j) H=some zs):∀(ys:List Int) (l:bw) (last:Int),Ka n j p len last l->(∀y∈ys,last<y/\y<=len)->ys.Pairwise (· < ·) ->
  ∃l' last',dS (λH=>ay (.ref j) H=some zs) (a9 "size") (oH) (ys.map V.int) ⟨l,H⟩= .ok .next ⟨l',H⟩/\Ka n j p len last' l'
 | [],l,last,h,_,_=>⟨l,last,rfl,h⟩
 | y::ys,l,last,h,h7,h8=>by
  refine oE λG kG=> ?_
  refine bz (upd l "size" (.int y)) λl1 e1=> ?_
  refine bz (upd l1 "last" (.int y)) λl2 e2=> ?_
  haveI hy:=h7 y (.head _)
  haveI bt:=j9 H y (last+1) len
  rw [decide_eq_true (show last+1<=y/\y<=len from hy)] at bt
  have n1:=ah e1 ∅ h.le
  have h8':=aaM.mp h8
  obtain ⟨l',last',t,z⟩:=sU n j p len zs hj ys l2 y ⟨aA e2,ah e2 ∅ n1,ah e2 ∅ (ah e1 ∅ h.se),ah e2 ∅ (ah e1 ∅ h.pa),ah e2 ∅ (ah e1 ∅ h.si)⟩ (λz hz=>⟨h8'.1 z hz,(h7 z (.tail _ hz)).2⟩) h8'.2
  refine kG ⟨l',last',(cg (q':=⟨l2,H⟩) (bq (g_set e1) (ai (q':=⟨l1,H⟩) ?_ ?_)) hj).trans t,z⟩
  ·exists aA e1,ah e1 ∅ h.la,n1,bt
  ·exists aA e1,e2
theorem IV (n j:Nat) (p len:Int) (xs:List Int) (hp:1<=p/\p<=40) (hl:1<=len/\len<=60) (hx:kh len xs) (hne:xs≠[]) (h8:xs.length<=8) (hn:H[n]? = some (.flds [])) (hj:H[j]? = some (.list (xs.map V.int))) :
  jx [.inst "Plan" n,.int p,.int len,.ref j] H= .ok .none ((H++[O.list (xs.map V.int)]).set n (.flds (jd p len H.length))):=by
 obtain ⟨R,eR⟩:∃R,(H++[O.list (xs.map V.int)]).set n (.flds (jd p len H.length))=R:=⟨_,rfl⟩
 rw [eR]
 have hnj:n≠j:=λe=>by rw [e,hj] at hn;cases hn
 have hnl:n<H.length:=(aab.mp hn).1
 have hit:ay (.ref j) H=some (xs.map V.int):=cA hj
 haveI hlen:decide (1<=((xs.map V.int).length:Int))=true:=decide_eq_true (by
  cases xs with
  | nil=>exact absurd rfl hne
  | cons x xs=>rw [aai,aav];exact id (cU 0x190cf1980))
 haveI hlen8:decide (((xs.map V.int).length:Int)<=8)=true:=decide_eq_true (by rw [aai];exact id (cU 0x890f8890011 h8))
 have hlm:(xs.map V.int).length<1000000:=by rw [aai];exact id (cU 0xf4240a01890011 h8)
 obtain ⟨l0,e0,a1,a2,a3,a4⟩:∃l0,aF ["self", "pages", "length", "sizes"] [.inst "Plan" n,.int p,.int len,.ref j]=l0/\l0 "self" = some (.inst "Plan" n)/\l0 "pages" = some (.int p)/\l0 "length" = some (.int len)/\l0 "sizes" = some (.ref j):=⟨_,rfl,rfl,rfl,rfl,rfl⟩
 obtain ⟨l1,e1⟩:∃l1,upd l0 "last" (.int 0)=l1:=⟨_,rfl⟩
 have a5:=ah e1 ∅ a4
 obtain ⟨l',last,hq,hI⟩:=sU H n j p len _ hit xs l1 0 ⟨aA e1,ah e1 ∅ a3,ah e1 ∅ a1,ah e1 ∅ a2,a5⟩ (λy hy=>⟨hx.low y hy,hx.top y hy⟩) hx.rise
 haveI b1:=j9 H p 1 40
 haveI b2:=j9 H len 1 60
 rw [decide_eq_true hp] at b1
 rw [decide_eq_true hl] at b2
 haveI ty:∀l,mG "list" (.ref j) ⟨l,H⟩= .ok (.bool true) ⟨l,H⟩:=λl=>by
  haveI:yT H (.ref j)=some "list" := by unfold yT;dsimp only;rw [hj]
  rw [Hw,this];rfl
 haveI ln:∀l,eW [.ref j] ⟨l,H⟩= .ok (.int (xs.map V.int).length) ⟨l,H⟩:=λl=>Jm hj hlm
 obtain ⟨H1,f1⟩:∃H1,H.set n (.flds [("pages",.int p)])=H1:=⟨_,rfl⟩
 obtain ⟨H2,f2⟩:∃H2,H1.set n (.flds [("pages",.int p),("length",.int len)])=H2:=⟨_,rfl⟩
 haveI c1:H1[n]? = some (.flds [("pages",.int p)]):=by rw [<- f1];exact aaB hnl
 have l1':H1.length=H.length:=by rw [<- f1];exact List.length_set
 have l2':H2.length=H.length:=by rw [<- f2,List.length_set];exact l1'
 haveI c2:H2[n]? = some (.flds [("pages",.int p),("length",.int len)]):=by rw [<- f2];exact aaB (l1'▸hnl)
 haveI c3:H2[j]? = some (.list (xs.map V.int)):=by rw [<- f2,aaS hnj,<- f1,aaS hnj];exact hj
 haveI s7:∀l,gE [.ref j] ⟨l,H2⟩= .ok (.ref H.length) ⟨l,H2++[.list (xs.map V.int)]⟩:=λl=>by rw [qw l _ (cA c3) (Nat.le_of_lt hlm),l2']
 haveI c4:(H2++[O.list (xs.map V.int)])[n]? = some (.flds [("pages",.int p),("length",.int len)]):=aG ⟨_,rfl⟩ c2
 haveI e7:(H2++[O.list (xs.map V.int)]).set n (.flds (jd p len H.length))=R:=by
  rw [<- eR,List.set_append_left _ _ (l2'▸hnl),List.set_append_left _ _ hnl,<- f2,<- f1,List.set_set,List.set_set]
 haveI u1:∀l,b0 "pages" (.int p) (.inst "Plan" n) ⟨l,H⟩= .ok () ⟨l,H1⟩:=λl=>by rw [<- f1];exact xO hn ∅
 haveI u2:∀l,b0 "length" (.int len) (.inst "Plan" n) ⟨l,H1⟩= .ok () ⟨l,H2⟩:=λl=>by rw [<- f2];exact xO c1 (aa6 rfl)
 haveI u3:∀l,b0 "sizes" (.ref H.length) (.inst "Plan" n) ⟨l,H2++[O.list (xs.map V.int)]⟩= .ok () ⟨l,R⟩:=λl=>by rw [<- e7];exact xO c4 (aa6 rfl)
 refine n7 (m:=sq) (q:=⟨l',R⟩) rfl ?_
 rw [e0]
 refine ai (q':=⟨l0,H⟩) ?_ (ai (q':=⟨l0,H⟩) ?_ (ai (q':=⟨l1,H⟩) (bq rfl (bq (g_set e1) rfl)) (ai (q':=⟨l',H⟩) ?_ (ai (q':=⟨l',H1⟩) ?_ (ai (q':=⟨l',H2⟩) ?_ ?_)))))
 ·exists a2,a3,b1,b2
 ·exists a4,ty,ln,hlen,hlen8
 ·exact bq (bq (g_get a5) (by rw [rD,hit])) hq
 ·exists hI.pa,hI.se,u1
 ·exists hI.le,hI.se,u2
 ·exists hI.si,s7,hI.se,u3
noncomputable def Kv (xs:List Int) (wish:Int):Int:=(xs.find? λx=>decide (x>=wish)).getD (-2)
theorem nR {g:Hp->Prop} {x w:String} (hxw:x≠w) {body:Cm Fl} (wish:Int) (hg:g H)
  (hb:∀l y,l x=some (.int y)->l w=some (.int wish)->body ⟨l,H⟩=if y>=wish then .ok (.ret (.int y)) ⟨l,H⟩ else .ok .next ⟨l,H⟩) :
  ∀(xs:List Int) (l:bw),l w=some (.int wish)-> ∃l',l' w=some (.int wish)/\dS g (a9 x) body (xs.map V.int) ⟨l,H⟩=match xs.find? (λx=>decide (x>=wish)) with | some y=> .ok (.ret (.int y)) ⟨l',H⟩ | none=> .ok .next ⟨l',H⟩
 | [],l,hw=>⟨l,hw,rfl⟩
 | y::ys,l,hw=>by
  have hw':upd l x (.int y) w=some (.int wish):=by rw [ig _ _ (Ne.symm hxw)];exact hw
  haveI:=hb (upd l x (.int y)) y (lf _ _ _) hw'
  have ht:((a9 x (.int y)).b λ_=>body) ⟨l,H⟩=if y>=wish then .ok (.ret (.int y)) ⟨upd l x (.int y),H⟩ else .ok .next ⟨upd l x (.int y),H⟩:=by rw [qv,Ak];exact this
  by_cases hy:y>=wish
  ·rw [if_pos hy] at ht
   refine ⟨upd l x (.int y),hw',?_⟩
   rw [aas,uh ht,aaC (by simpa using hy)]
  ·rw [if_neg hy] at ht
   rw [aas,cg ht hg,aay (by simpa using hy)]
   exact nR hxw wish hg hb ys _ hw'
theorem pQ (i:Nat) (p len:Int) (xs:List Int) (wish:Int) (hi:AX H i p len xs):bV [.inst "Plan" i,.int wish] H =
  if wish<1 then .exc "BadWish" H else match xs.find? (λx=>decide (x>=wish)) with | some y=> .ok (.int y) H | none=> .exc "TooLarge" H:=by
 obtain ⟨m,h1,h2⟩:=hi.at'
 obtain ⟨l0,e0,a1,a2⟩:∃l0,aF ["self", "wish"] [.inst "Plan" i,.int wish]=l0/\l0 "self" = some (.inst "Plan" i)/\l0 "wish" = some (.int wish):=⟨_,rfl,rfl,rfl⟩
 have hit:ay (.ref m) H=some (xs.map V.int):=cA h2
 by_cases hw:wish<1
 ·haveI hd:=decide_eq_true hw
  rw [if_pos hw]
  refine ce (m:=dW) (q:=⟨l0,H⟩) rfl (bY ?_)
  rw [e0]
  exists a2,gR H wish,hd
 ·haveI hd:=decide_eq_false hw
  rw [if_neg hw]
  have s1:jM ⟨l0,H⟩= .ok .next ⟨l0,H⟩:=by exists a2,gR H wish,hd
  obtain ⟨l',hw',hl⟩:=nR H (g:=λH=>ay (.ref m) H=some (xs.map V.int)) (x := "size") (w := "wish") ∅ (body:=fN) wish hit
   (λl y h1 h2=>by
    by_cases hy:y>=wish
    ·rw [if_pos hy];exact bq (bq (g_get h1) (bq (g_get h2) rfl)) (it_t (decide_eq_true hy) (bq (g_get h1) rfl))
    ·rw [if_neg hy];exact bq (bq (g_get h1) (bq (g_get h2) rfl)) (it_f (decide_eq_false hy) rfl)) xs l0 a2
  have s2:jN ⟨l0,H⟩=dS (λH=>ay (.ref m) H=some (xs.map V.int)) (a9 "size") (fN) (xs.map V.int) ⟨l0,H⟩ :=
   bq (bq (bq (g_get a1) (fz h1 (uP _ _ _))) (by rw [rD,hit])) rfl
  rw [hl] at s2
  cases hf:xs.find? (λx=>decide (x>=wish)) with
  | some y =>
   rw [hf] at s2
   exact aU (m:=dW) (q:=⟨l',H⟩) rfl (by rw [e0];exact ai s1 (bB s2))
  | none =>
   rw [hf] at s2
   exact ce (m:=dW) (q:=⟨l',H⟩) rfl (by rw [e0];exact ai s1 (ai s2 rfl))
theorem HE (i:Nat) (p len:Int) (xs:List Int) (z:Int) (hi:AX H i p len xs) (hz:z∈xs->z≠0):ee [.inst "Plan" i,.int z] H=if z∈xs then .ok (.int (len.fdiv z)) H else .exc "NoSize" H:=by
 obtain ⟨m,h1,h2⟩:=hi.at'
 obtain ⟨l0,e0,a1,a2⟩:∃l0,aF ["self", "size"] [.inst "Plan" i,.int z]=l0/\l0 "self" = some (.inst "Plan" i)/\l0 "size" = some (.int z):=⟨_,rfl,rfl,rfl⟩
 have hin:un (.int z) (.ref m) ⟨l0,H⟩= .ok (decide (z∈xs)) ⟨l0,H⟩:=og (q:=⟨l0,H⟩) h2
 by_cases hw:z∈xs
 ·rw [if_pos hw]
  rw [decide_eq_true hw] at hin
  refine aU (m:=lE) (q:=⟨l0,H⟩) rfl ?_
  rw [e0]
  refine ai (q':=⟨l0,H⟩) ?_ (bq (bq (bq (g_get a1) (fz h1 (xq _ _ _))) (bq (g_get a2) (gk (hz hw) rfl))) rfl)
  exists a1,a2,gR H z,fz h1 (uP _ _ _),hin
 ·rw [if_neg hw]
  rw [decide_eq_false hw] at hin
  refine ce (m:=lE) (q:=⟨l0,H⟩) rfl (bY ?_)
  rw [e0]
  exists a1,a2,gR H z,fz h1 (uP _ _ _),hin
noncomputable def hY (p z:Int) (t:Nat):List (String×V):=[("page",.int p),("size",.int z),("taken",.ref t)]
theorem GQ (p z:Int) (t:Nat):(hY p z t).lookup "page" = some (.int p):=rfl
theorem GR (p z:Int) (t:Nat):(hY p z t).lookup "size" = some (.int z):=rfl
theorem ji (p z:Int) (t:Nat):(hY p z t).lookup "taken" = some (.ref t):=rfl
theorem BE (p z:Int) (t:Nat):(hY p z t).lookup "has" = none:=rfl
theorem IP (p z:Int) (t:Nat):(hY p z t).lookup "out" = none:=rfl
structure jt (H:Hp) (i t:Nat) (p z:Int) (bs:List Bool):Prop where
 ob:H[i]? = some (.flds (hY p z t))
 ls:H[t]? = some (.list (bs.map V.bool))
theorem IW (p z k:Int) (hk:0<=k/\k<=1000) (l:bw):oY "Shelf" (iw) [.int p,.int z,.int k] ⟨l,H⟩ =
  .ok (.inst "Shelf" H.length) ⟨l,H++[.flds (hY p z (H.length+2)),.list [.bool false],.list ((List.replicate k.toNat false).map V.bool)]⟩:=by
 obtain ⟨l0,e0,a1,a2,a3,a4⟩:∃l0,aF ["self", "page", "size", "slots"] [.inst "Shelf" H.length,.int p,.int z,.int k]=l0/\l0 "self" = some (.inst "Shelf" H.length)/\l0 "page" = some (.int p)/\l0 "size" = some (.int z)/\l0 "slots" = some (.int k):=⟨_,rfl,rfl,rfl,rfl,rfl⟩
 obtain ⟨R,eR⟩:∃R,O.list ((List.replicate k.toNat false).map V.bool)=R:=⟨_,rfl⟩
 rw [eR]
 haveI hn:∀l,dr [.bool false] ⟨l,H++[.flds [("page",.int p),("size",.int z)]]⟩= .ok (.ref (H.length+1)) ⟨l,H++[.flds [("page",.int p),("size",.int z)],.list [.bool false]]⟩:=λl=>by
  rw [uR,if_pos (aa6 rfl),aad,aae];rfl
 haveI hm:∀l,gx (.ref (H.length+1)) (.int k) ⟨l,H++[.flds [("page",.int p),("size",.int z)],.list [.bool false]]⟩= .ok (.ref (H.length+2)) ⟨l,H++[.flds [("page",.int p),("size",.int z)],.list [.bool false],R]⟩:=λl=>by
  rw [Cv (a:=false) (f:=V.bool) (by rw [aan (aaJ _ _),aaA];rfl) ⟨hk.1,Int.le_trans hk.2 ∅⟩,eR,aad,aae];rfl
 rw [BC,show iw [.inst "Shelf" H.length,.int p,.int z,.int k] (H++[.flds []])= .ok .none (H++[.flds (hY p z (H.length+2)),.list [.bool false],R]) from ?_]
 refine n7 (m:=qq) (q:=⟨l0,H++[.flds (hY p z (H.length+2)),.list [.bool false],R]⟩) rfl ?_
 rw [e0]
 refine ai (q':=⟨l0,H++[.flds [("page",.int p)]]⟩) ?_ (ai (q':=⟨l0,H++[.flds [("page",.int p),("size",.int z)]]⟩) ?_ ?_)
 ·exists a1,a2,nW (fs:=[]) ∅
 ·exists a1,a3,nW (fs:=[("page",.int p)]) (aa6 rfl)
 ·exists hn,a4,hm,a1,nW (fs:=[("page",.int p),("size",.int z)]) (aa6 rfl)
section
variable {H} {i t:Nat} {p z:Int} {bs:List Bool} (hS:jt H i t p z bs) (hb:bs.length<=1000)
include hS hb
theorem xz:∀(r:List Bool) (a:Nat) (l:bw),l "self" = some (.inst "Shelf" i)->bs.drop a=r ->
  (match bA r with
  | some j=> ∃l',dS (λ_=>True) (a9 "slot") (cV) (bN a r.length) ⟨l,H⟩= .ok (.ret (.int ((a+j:Nat):Int))) ⟨l',H.set t (.list ((bs.set (a+j) true).map V.bool))⟩
  | none=> ∃l',dS (λ_=>True) (a9 "slot") (cV) (bN a r.length) ⟨l,H⟩= .ok .next ⟨l',H⟩)
 | [],a,l,_,_=>⟨l,rfl⟩
 | b::r,a,l,h1,e=>by
  refine oE λG kG=> ?_
  have hg:bs[a]? = some b:=by
   haveI:(bs.drop a)[0]? = some b:=by rw [e];rfl
   rw [List.getElem?_drop] at this;exact this
  haveI hr:bs.drop (a+1)=r:=by rw [<- List.drop_drop,e];rfl
  have hlt:a<bs.length:=(aab.mp hg).1
  have hi:∀l,aR (.ref t) (.int a) ⟨l,H⟩= .ok (.bool b) ⟨l,H⟩:=λl=>sJ hS.ls (Int.natCast_nonneg _) (by exact cM 0xf4240a1f901110003e8a0012 hb hlt) hg
  refine bz (upd l "slot" (.int a)) λl1 e1=> ?_
  have b1:=ah e1 ∅ h1
  have b2:=aA e1
  have ta:=fz (l:=l1) (c := "Shelf") hS.ob (ji _ _ _)
  cases b with
  | false =>
   haveI hs:∀l,dn (.ref t) (.int a) (.bool true) ⟨l,H⟩= .ok () ⟨l,H.set t (.list ((bs.set a true).map V.bool))⟩:=λl=>nt hS.ls (Int.natCast_nonneg _) (by exact cM 0xf4240a1f901110003e8a0012 hb hlt) (by exact cM 0x1f0f910111 hlt)
   refine kG ⟨l1,uh (bq (g_set e1) (bq (a:=true) (q':=⟨l1,H⟩) ?_ (it_t rfl (ai (q':=⟨l1,H.set t (.list ((bs.set a true).map V.bool))⟩) ?_ (bq (g_get b2) rfl)))))⟩
   ·exists b1,ta,b2,hi
   ·exists b1,ta,b2,hs
  | true =>
   haveI ht:((a9 "slot" (.int a)).b λ_=>cV) ⟨l,H⟩= .ok .next ⟨l1,H⟩:=bq (g_set e1) (by exists b1,ta,b2,hi)
   have ih:=xz r (a+1) l1 b1 hr
   have g:∀x,dS (λ_=>True) (a9 "slot") (cV) (bN ((a+1:Nat):Int) r.length) ⟨l1,H⟩=x->dS (λ_=>True) (a9 "slot") (cV) (bN a (true::r).length) ⟨l,H⟩=x:=λx hx=>(cg ht trivial).trans hx
   rw [show bA (true::r)=(bA r).map (· + 1) from rfl] at kG
   cases hf:bA r with
   | none =>
    rw [hf] at ih kG
    obtain ⟨l',ih⟩:=ih
    exact kG ⟨l',g _ ih⟩
   | some j =>
    rw [hf] at ih kG
    obtain ⟨l',ih⟩:=ih
    rw [Nat.add_right_comm] at ih
    exact kG ⟨l',g _ ih⟩
theorem IZ:fT [.inst "Shelf" i] H=match bA bs with
  | some j=> .ok (.int j) (H.set t (.list ((bs.set j true).map V.bool)))
  | none=> .exc "NoRoom" H:=by
 haveI hl:∀l,eW [.ref t] ⟨l,H⟩= .ok (.int bs.length) ⟨l,H⟩:=λl=>by rw [cH hS.ls (by rw [aai];exact id (cU 0xf4240a010003e8a0011 hb)),aai]
 haveI hr:∀q,fE [.int bs.length] q= .ok ⟨bN 0 bs.length,λ_=>True⟩ q:=λq=>by rw [kz _ _ ⟨by exact cU 0xf0f4240a1b90,by exact cU 0xf4240a0f90003e8a0011 hb⟩];rfl
 obtain ⟨l0,e0,a1⟩:∃l0,aF ["self"] [.inst "Shelf" i]=l0/\l0 "self" = some (.inst "Shelf" i):=⟨_,rfl,rfl⟩
 have h1:∀r,dS (λ_=>True) (a9 "slot") (cV) (bN 0 bs.length) ⟨l0,H⟩=r->nN ⟨l0,H⟩=r:=λr e=>by
  refine bq (a:=⟨bN 0 bs.length,λ_=>True⟩) (q':=⟨l0,H⟩) ?_ e
  exists a1,fz hS.ob (ji _ _ _),hl,hr
 have L:=xz hS hb bs 0 l0 a1 rfl
 cases hf:bA bs with
 | none =>
  rw [hf] at L
  obtain ⟨l',L⟩:=L
  exact ce (m:=lH) (q:=⟨l',H⟩) rfl (by rw [e0];exact ai (h1 _ L) rfl)
 | some j =>
  rw [hf] at L
  obtain ⟨l',L⟩:=L
  rw [aa2] at L
  exact aU (m:=lH) rfl (by rw [e0];exact bB (h1 _ L))
theorem FO (k:Int):jz [.inst "Shelf" i,.int k] H= .ok (.bool (jF bs k)) H:=by
 have hl:∀l,eW [.ref t] ⟨l,H⟩= .ok (.int bs.length) ⟨l,H⟩:=λl=>by rw [cH hS.ls (by rw [aai];exact id (cU 0xf4240a010003e8a0011 hb)),aai]
 obtain ⟨l0,e0,a1,a2⟩:∃l0,aF ["self", "slot"] [.inst "Shelf" i,.int k]=l0/\l0 "self" = some (.inst "Shelf" i)/\l0 "slot" = some (.int k):=⟨_,rfl,rfl,rfl⟩
 have ta:=fz (l:=l0) (c := "Shelf") hS.ob (ji _ _ _)
 refine aU (m:=sC) (q:=⟨l0,H⟩) rfl ?_
 rw [e0]
 by_cases h0:0<=k
 ·have d0:=decide_eq_true h0
  by_cases h1:k<bs.length
  ·haveI d1:=decide_eq_true h1
   have hg:bs[k.toNat]? = some bs[k.toNat]:=aak (by exact kx 0x1101fa10f0912 h1 (aaq h0))
   haveI hi:∀l,aR (.ref t) (.int k) ⟨l,H⟩= .ok (.bool bs[k.toNat]) ⟨l,H⟩:=λl=>sJ hS.ls h0 (by exact j5 0xf4240a090f0910003e8a0012 hb h1) hg
   haveI e:jF bs k=bs[k.toNat]:=by unfold jF;rw [if_pos ⟨h0,h1⟩,hg];rfl
   rw [e]
   exists a1,a2,d0,ta,hl,d1,hi
  ·haveI d1:=decide_eq_false h1
   haveI e:jF bs k=false:=if_neg λh=>h1 h.2
   rw [e]
   exists a1,a2,d0,ta,hl,d1
 ·haveI d0:=decide_eq_false h0
  haveI e:jF bs k=false:=if_neg λh=>h0 h.1
  rw [e]
  exists a1,a2,d0
theorem IU (k:Int):lz [.inst "Shelf" i,.int k] H=if jF bs k then .ok .none (H.set t (.list ((bs.set k.toNat false).map V.bool))) else .exc "NotOut" H:=by
 have hh:=FO hS hb k
 obtain ⟨l0,e0,a1,a2⟩:∃l0,aF ["self", "slot"] [.inst "Shelf" i,.int k]=l0/\l0 "self" = some (.inst "Shelf" i)/\l0 "slot" = some (.int k):=⟨_,rfl,rfl,rfl⟩
 have me:=cZ (l:=l0) (c := "Shelf") hS.ob (BE _ _ _)
 cases hg:jF bs k with
 | false =>
  rw [hg] at hh
  refine ce (m:=lG) (q:=⟨l0,H⟩) rfl (bY ?_)
  rw [e0]
  exists a1,a2,me,hh
 | true =>
  rw [hg] at hh
  have hk:0<=k/\k<bs.length:=Classical.byContradiction λh=>by
   have:jF bs k=false:=if_neg h
   rw [this] at hg;cases hg
  haveI hs:∀l,dn (.ref t) (.int k) (.bool false) ⟨l,H⟩= .ok () ⟨l,H.set t (.list ((bs.set k.toNat false).map V.bool))⟩:=λl=>nt hS.ls hk.1 (by exact j5 0xf4240a090f0910003e8a0012 hb hk.2) hk.2
  refine n7 (m:=lG) (q:=⟨l0,H.set t (.list ((bs.set k.toNat false).map V.bool))⟩) rfl ?_
  rw [e0]
  refine ai (q':=⟨l0,H⟩) ?_ ?_
  ·exists a1,a2,me,hh
  ·exists a1,a2,fz hS.ob (ji _ _ _),hs
theorem IT:eQ [.inst "Shelf" i] H= .ok (.ref H.length) (H++[.list ((gN 0 bs).map V.int)]):=by
 obtain ⟨l0,e0,a1⟩:∃l0,aF ["self"] [.inst "Shelf" i]=l0/\l0 "self" = some (.inst "Shelf" i):=⟨_,rfl,rfl⟩
 have hit:ay (.ref t) H=some (bs.map V.bool):=cA hS.ls
 haveI hc:mR ⟨l0,H⟩= .ok (.ref H.length) ⟨l0,H++[.list ((gN 0 bs).map V.int)]⟩:=by
  refine iG (it:=⟨gK 0 (bs.map V.bool),λH=>ay (.ref t) H=some (bs.map V.bool)⟩) (H1:=H) ?_ (by rw [ip,aai];exact id (cU 0xf4240a000003e8a0011 hb)) ?_
  ·haveI en:∀l,oO [.ref t] ⟨l,H⟩= .ok ⟨gK 0 (bs.map V.bool),λH=>ay (.ref t) H=some (bs.map V.bool)⟩ ⟨l,H⟩:=λl=>by unfold oO;dsimp only;rw [hit]
   exists a1,fz hS.ob (ji _ _ _),en
  ·rw [<- pz]
   refine iF hit Jz _ λx hx=> ?_
   obtain ⟨j,b,rfl⟩:=uc _ _ _ hx
   have h1:xt "slot" "one" (.tup [.int j,.bool b]) ⟨fx [] l0,H⟩= .ok () ⟨upd (upd (fx [] l0) "slot" (.int j)) "one" (.bool b),H⟩:=rfl
   cases b with
   | false=>exact fR (H2:=H) (H3:=H) h1 rfl rfl
   | true=>exact gJ h1 rfl
 refine aU (m:=qo) (q:=⟨l0,_⟩) rfl ?_
 rw [e0]
 exact bq hc rfl
theorem HD:bO [.inst "Shelf" i] H= .ok (.int (bs.count true)) (H++[.list (List.replicate (bs.count true) (V.bool true))]):=by
 obtain ⟨l0,e0,a1⟩:∃l0,aF ["self"] [.inst "Shelf" i]=l0/\l0 "self" = some (.inst "Shelf" i):=⟨_,rfl,rfl⟩
 have hit:ay (.ref t) H=some (bs.map V.bool):=cA hS.ls
 haveI hcl:bs.count true<=bs.length:=List.count_le_length
 haveI hc:oN ⟨l0,H⟩= .ok (.ref H.length) ⟨l0,H++[.list (List.replicate (bs.count true) (V.bool true))]⟩:=by
  refine iG (it:=⟨bs.map V.bool,λH=>ay (.ref t) H=some (bs.map V.bool)⟩) (H1:=H) ?_ (by rw [aai];exact id (cU 0xf4240a000003e8a0011 hb)) ?_
  ·haveI en:∀l,d5 (.ref t) ⟨l,H⟩= .ok ⟨bs.map V.bool,λH=>ay (.ref t) H=some (bs.map V.bool)⟩ ⟨l,H⟩:=λl=>by rw [rD,hit]
   exists a1,fz hS.ob (ji _ _ _),en
  ·rw [<- rq]
   refine iF hit Jy _ λx hx=> ?_
   obtain ⟨b,_,rfl⟩:=aag.mp hx
   have h1:a9 "one" (.bool b) ⟨fx [] l0,H⟩= .ok () ⟨upd (fx [] l0) "one" (.bool b),H⟩:=rfl
   cases b with
   | true=>exact fR (H2:=H) (H3:=H) h1 rfl rfl
   | false=>exact gJ h1 rfl
 haveI hl:eW [.ref H.length] ⟨l0,H++[.list (List.replicate (bs.count true) (V.bool true))]⟩= .ok (.int (bs.count true)) ⟨l0,H++[.list (List.replicate (bs.count true) (V.bool true))]⟩:=by
  rw [cH (xs:=List.replicate (bs.count true) (V.bool true)) (aY _ _) (by rw [List.length_replicate];exact id (cM 0xf4240a1101010003e8a0012 hb hcl)),List.length_replicate]
 refine aU (m:=sD) (q:=⟨l0,_⟩) rfl ?_
 rw [e0]
 exact bq (bq (bq hc rfl) hl) rfl
theorem FN:iu [.inst "Shelf" i] H= .ok (.ref H.length) (H++[.list ((cu 0 bs).map V.int)]):=by
 obtain ⟨l0,e0,a1⟩:∃l0,aF ["self"] [.inst "Shelf" i]=l0/\l0 "self" = some (.inst "Shelf" i):=⟨_,rfl,rfl⟩
 have hit:ay (.ref t) H=some (bs.map V.bool):=cA hS.ls
 haveI hc:mS ⟨l0,H⟩= .ok (.ref H.length) ⟨l0,H++[.list ((cu 0 bs).map V.int)]⟩:=by
  refine iG (it:=⟨gK 0 (bs.map V.bool),λH=>ay (.ref t) H=some (bs.map V.bool)⟩) (H1:=H) ?_ (by rw [ip,aai];exact id (cU 0xf4240a000003e8a0011 hb)) ?_
  ·haveI en:∀l,oO [.ref t] ⟨l,H⟩= .ok ⟨gK 0 (bs.map V.bool),λH=>ay (.ref t) H=some (bs.map V.bool)⟩ ⟨l,H⟩:=λl=>by unfold oO;dsimp only;rw [hit]
   exists a1,fz hS.ob (ji _ _ _),en
  ·rw [<- pA]
   refine iF hit JA _ λx hx=> ?_
   obtain ⟨j,b,rfl⟩:=uc _ _ _ hx
   have h1:xt "slot" "one" (.tup [.int j,.bool b]) ⟨fx [] l0,H⟩= .ok () ⟨upd (upd (fx [] l0) "slot" (.int j)) "one" (.bool b),H⟩:=rfl
   cases b with
   | true=>exact fR (H2:=H) (H3:=H) h1 rfl rfl
   | false=>exact gJ h1 rfl
 refine aU (m:=qp) (q:=⟨l0,_⟩) rfl ?_
 rw [e0]
 exact bq hc rfl
end
end
theorem uQ (i j:Int) (q:S) (h:i.natAbs<2 ^ 64):gx (.int i) (.int j) q= .ok (.int (i*j)) q:=by
 unfold gx
 dsimp only
 rw [if_pos (IntMulOk.of_left (intBits_le_iff.mpr h))];rfl
theorem wS {g:Hp->Prop} {bd:V->Cm Unit} {tst:Cm Bool} {elt:Cm V} {lc:bw} (H0:Hp) (hg:∀H,H0<+:H->g H) (φ : V->Option V):∀(xs:List V) (H:Hp),H0<+:H ->
  (∀x∈xs,∀H,H0<+:H-> ∃H',bS bd tst elt lc x H= .ok (φ x) H'/\H<+:H')-> ∃H',gj g bd tst elt lc xs H= .ok (xs.filterMap φ) H'/\H<+:H'
 | [],H,_,_=>⟨H,rfl,aac _⟩
 | x::xs,H,h0,h=>by
  obtain ⟨H1,h1,p1⟩:=h x (.head _) H h0
  obtain ⟨H2,h2,p2⟩:=wS H0 hg φ xs H1 (h0.trans p1) λz hz=>h z (.tail _ hz)
  exact ⟨H2,by rw [zj h1 (hg _ (h0.trans p1)) h2,qf],p1.trans p2⟩
structure bG where
 pg:Int
 sh:Nat
 t:Nat
 sz:Int
 bs:List Bool
structure Rm where
 pl:Nat
 d:Nat
 c:Nat
 m:Nat
 p:Int
 len:Int
 xs:List Int
 ss:List bG
 cs:List Int
noncomputable def bG.ent (s:bG):Int×V:=(s.pg,.inst "Shelf" s.sh)
noncomputable def d7 (ss:List bG) (g:Int):Option bG:=ss.find? λs=>s.pg==g
noncomputable def roomF (pl d c:Nat):List (String×V):=[("plan",.inst "Plan" pl),("racks",.ref d),("cells",.ref c)]
theorem GO (pl d c:Nat) {x:String} (h:x ≠ "plan" /\ x ≠ "racks" /\ x ≠ "cells"):(roomF pl d c).lookup x=none:=by
 haveI h1:(x == "plan")=false:=by simpa using h.1
 haveI h2:(x == "racks")=false:=by simpa using h.2.1
 haveI h3:(x == "cells")=false:=by simpa using h.2.2
 unfold roomF
 rw [List.lookup_cons,h1];dsimp only;rw [List.lookup_cons,h2];dsimp only;rw [List.lookup_cons,h3];rfl
structure aN (H:Hp) (ri:Nat) (r:Rm):Prop where
 ob:H[ri]? = some (.flds (roomF r.pl r.d r.c))
 plan:H[r.pl]? = some (.flds (jd r.p r.len r.m))
 sizes:H[r.m]? = some (.list (r.xs.map V.int))
 racks:H[r.d]? = some (.dict (r.ss.map bG.ent))
 shelf:∀s∈r.ss,jt H s.sh s.t s.pg s.sz s.bs
 cells:H[r.c]? = some (.list (r.cs.map V.int))
structure Rm.Ok (r:Rm):Prop where
 p:1<=r.p/\r.p<=40
 len:1<=r.len/\r.len<=60
 sz:kh r.len r.xs
 ne:r.xs≠[]
 ndp:(r.ss.map (·.pg)).Nodup
 ndt:(r.ss.map (·.t)).Nodup
 pg:∀s∈r.ss,0<=s.pg/\s.pg<r.p
 in':∀s∈r.ss,s.sz∈r.xs
 slots:∀s∈r.ss,(s.bs.length:Int)=r.len.fdiv s.sz
 cs:(r.cs.length:Int)=r.p*r.len
 ct:r.c∉r.ss.map (·.t)
 mt:r.m∉r.ss.map (·.t)
 mc:r.m≠r.c
theorem jt.pre {H H':Hp} {i t:Nat} {p z:Int} {bs:List Bool} (h:jt H i t p z bs) (e:H<+:H'):jt H' i t p z bs:=⟨aG e h.ob,aG e h.ls⟩
theorem aN.pre {H H':Hp} {ri:Nat} {r:Rm} (h:aN H ri r) (e:H<+:H'):aN H' ri r :=
 ⟨aG e h.ob,aG e h.plan,aG e h.sizes,aG e h.racks,λs hs=>(h.shelf s hs).pre e,aG e h.cells⟩
theorem aN.isPlan {H:Hp} {ri:Nat} {r:Rm} (h:aN H ri r):AX H r.pl r.p r.len r.xs:=⟨⟨r.m,h.plan,h.sizes⟩⟩
theorem aW:∀ {ss:List bG} {g:Int} {s:bG},d7 ss g=some s->s∈ss/\s.pg=g:=λ{ss g s} h =>
 ⟨aaE h,by simpa using List.find?_some h⟩
theorem jE:∀ {ss:List bG},(ss.map (·.pg)).Nodup-> ∀ {s:bG},s∈ss->d7 ss s.pg=some s
 | [],_,_,h=>by cases h
 | a::ss,hn,s,h=>by
  rw [aas,List.nodup_cons] at hn
  unfold d7
  rcases aal.mp h with rfl | h
  ·rw [aaC (by simp)]
  ·haveI hne:¬((a.pg==s.pg)=true):=λe=>hn.1 (aag.mpr ⟨s,h,(by simpa using e:a.pg=s.pg).symm⟩)
   rw [aay (p:=λs':bG=>s'.pg==s.pg) hne]
   exact jE hn.2 h
theorem zF {ss:List bG} {g:Int}:d7 ss g=none↔g∉ss.map (·.pg):=by
 unfold d7
 rw [List.find?_eq_none]
 constructor
 ·intro h hm
  obtain ⟨s,hs,e⟩:=aag.mp hm
  exact h s hs (by simpa using e)
 ·intro h s hs e
  exact h (aag.mpr ⟨s,hs,by simpa using e⟩)
theorem iR:∀(ss:List bG) (g:Int),(ss.map bG.ent).lookup g=(d7 ss g).map λs=> .inst "Shelf" s.sh
 | [],_=>rfl
 | a::ss,g=>by
  rw [aas]
  unfold bG.ent d7
  rw [List.lookup_cons]
  by_cases e:g=a.pg
  ·subst e;rw [aaC (by simp)];simp
  ·haveI e1:(g==a.pg)=false:=by simpa using e
   haveI e2:¬((a.pg==g)=true):=by simpa using λx=>e x.symm
   rw [e1,aay (p:=λs':bG=>s'.pg==g) e2]
   exact iR ss g
theorem Ew (ss:List bG):(ss.map bG.ent).map (·.1)=ss.map (·.pg):=by rw [List.map_map];rfl
theorem Ac:∀(n:Nat) (l:List Nat),l.Nodup->(∀x∈l,x<n)->l.length<=n
 | 0,l,_,h=>by
  cases l with
  | nil=>simp
  | cons x r=>exact absurd (h x (.head _)) (by exact cU 0x9050)
 | n+1,l,hn,h=>by
  haveI h1:=Ac n (l.filter (· ≠ n)) (hn.filter _) λx hx=>by
   obtain ⟨hx1,hx2⟩:=aaF.mp hx
   exact Nat.lt_of_le_of_ne (Nat.le_of_lt_succ (h x hx1)) (of_decide_eq_true hx2)
  haveI h2:l.length<=(l.filter (· ≠ n)).length+1:=by
   clear h1 h
   induction l with
   | nil=>simp
   | cons a r ih =>
    rw [List.nodup_cons] at hn
    by_cases e:a=n
    ·subst e
     haveI:r.filter (· ≠ a)=r:=by
      apply List.filter_eq_self.mpr
      intro x hx
      haveI:x≠a:=λe=>hn.1 (e▸hx)
      simpa using this
     rw [aaP (by simp),this];simp
    ·rw [aaO (by simpa using e)]
     haveI:=ih hn.2
     rw [aav,aav];exact id (cM 0x19191cc190c0191c0011 this)
  exact id (mK 0x191c20190c20110012 h1 h2)
theorem Rm.Ok.few {r:Rm} (h:r.Ok):r.ss.length<=40:=by
 haveI h1:=Ac r.p.toNat ((r.ss.map (·.pg)).map Int.toNat) (by
  refine List.pairwise_map.mpr (h.ndp.imp_of_mem λ{a b} ha hb hab e=>hab ?_)
  obtain ⟨s,hs,rfl⟩:=aag.mp ha
  obtain ⟨s',hs',rfl⟩:=aag.mp hb
  rw [<- aaq (h.pg s hs).1,<- aaq (h.pg s' hs').1,e]) λx hx=>by
  obtain ⟨g,hg,rfl⟩:=aag.mp hx
  obtain ⟨s,hs,rfl⟩:=aag.mp hg
  have:=h.pg s hs
  exact id (hH [_,_] [_,_] 0x1011f18100fa110913 this.2 (aaq this.1) (Int.self_le_toNat _))
 have:=h.p
 simp at h1
 exact id (kx 0x28a0001fa11001000028a0813 this.2 h1 (aaq (bQ 0x98019811 this.1)))
theorem Rm.Ok.szpos {r:Rm} (h:r.Ok) {s:bG} (hs:s∈r.ss):1<=s.sz/\s.sz<=r.len:=⟨h.sz.low _ (h.in' s hs),h.sz.top _ (h.in' s hs)⟩
theorem IB {x:Int} (a:0<=x) (b:x<1000000):x.natAbs<2 ^ 64:=Int.ofNat_lt.mp (by rw [Int.natAbs_of_nonneg a];exact Int.lt_trans b ∅)
theorem E5 {n:Nat}:((n:Int)=0)↔n=0:=Int.ofNat_inj
theorem Kl {z:Int} (h:0<=z/\z<=1000) : -1000000<z/\z<1000000:=⟨Int.lt_of_lt_of_le ∅ h.1,Int.lt_of_le_of_lt h.2 ∅⟩
theorem z0 {z:Int} (h:1<=z):(0:Int)<=0/\0<z:=⟨Int.le_refl _,Int.lt_of_lt_of_le ∅ h⟩
theorem JK {α:Type} {l:List α} {i:Nat} {x:α} (h:l[i]? = some x):(l.length:Int)≠0:=λe=>by rw [List.length_eq_zero_iff.mp (Int.ofNat_inj.mp e)] at h;cases h
theorem ED {a b:Nat}:((a:Int)>(b:Int))↔b<a:=Int.ofNat_lt
theorem xQ {a g x:Int} (e:a=g) (h:¬x=g):¬((a==x)=true):=λq=>h ((eq_of_beq q).symm.trans e)
theorem zB {a b:Int} (u1:0<=a.fdiv b) (u4:a<(a.fdiv b+1)*b) (h:b<=a):1<=a.fdiv b:=by
 rcases Int.lt_or_le (a.fdiv b) 1 with q | q
 ·rw [show a.fdiv b=0 by exact aa0 (bQ 0x908190911 q) (u1),Int.zero_add,Int.one_mul] at u4;exact absurd h (Int.not_le.mpr u4)
 ·exact q
theorem er {a b:Int} (ha:0<=a) (hb:1<=b):0<=a.fdiv b/\a.fdiv b<=a/\a.fdiv b*b<=a/\a<(a.fdiv b+1)*b:=by
 rw [Int.fdiv_eq_ediv_of_nonneg a (by exact bQ 0x98019811 hb)]
 have h1:=Int.emod_add_mul_ediv a b
 have h2:=Int.emod_nonneg a (by exact λx9=>bQ 0x9096090a1019812 hb x9:b≠0)
 haveI h3:=Int.emod_lt_of_pos a (by exact bQ 0x99019811 hb:0<b)
 have h4:0<=a/b:=Int.ediv_nonneg ha (by exact bQ 0x98019811 hb)
 haveI h5:a/b*1<=a/b*b:=Int.mul_le_mul_of_nonneg_left hb h4
 rw [Int.mul_comm] at h1
 refine ⟨h4,Int.le_trans (by rw [Int.mul_one] at h5;exact h5) (by exact Hr 0x21800981210ca12 h1 h2),by exact Hr 0x21800981210ca12 h1 h2,?_⟩
 rw [Int.add_mul];exact id (Gl 0x301d1c293091210cb12 h1 h3)
theorem Rm.Ok.bslen {r:Rm} (h:r.Ok) {s:bG} (hs:s∈r.ss):s.bs.length<=1000:=by
 haveI h1:=h.slots s hs
 haveI h2:=h.szpos hs
 have h3:=h.len
 haveI:=(er (a:=r.len) (b:=s.sz) (by exact bQ 0x98019811 h3.1) h2.1).2.1
 exact id (Dz 0x3e8a00108100003ca18100fa13 h1 h3.2 this)
section
variable {H:Hp} {ri:Nat} {r:Rm} (hR:aN H ri r) (hO:r.Ok)
include hR
theorem be (l:bw):aC "racks" (.inst "Room" ri) ⟨l,H⟩= .ok (.ref r.d) ⟨l,H⟩:=lp hR.ob rfl
theorem du (l:bw):aC "plan" (.inst "Room" ri) ⟨l,H⟩= .ok (.inst "Plan" r.pl) ⟨l,H⟩:=lp hR.ob rfl
theorem kI (l:bw):aC "cells" (.inst "Room" ri) ⟨l,H⟩= .ok (.ref r.c) ⟨l,H⟩:=lp hR.ob rfl
theorem uU (l:bw):aC "length" (.inst "Plan" r.pl) ⟨l,H⟩= .ok (.int r.len) ⟨l,H⟩:=lp hR.plan rfl
theorem Fw (l:bw):aC "pages" (.inst "Plan" r.pl) ⟨l,H⟩= .ok (.int r.p) ⟨l,H⟩:=lp hR.plan rfl
theorem aH {f:String} (h:f ≠ "plan" /\ f ≠ "racks" /\ f ≠ "cells") (l:bw):dI "Room" f (.inst "Room" ri) ⟨l,H⟩= .ok () ⟨l,H⟩:=by simp [Fu,hR.ob,GO _ _ _ h]
theorem cG {g:Int} {s:bG} (h:d7 r.ss g=some s) (l:bw):aR (.ref r.d) (.int g) ⟨l,H⟩= .ok (.inst "Shelf" s.sh) ⟨l,H⟩:=by
 unfold aR;dsimp only;rw [hR.racks];dsimp only;rw [iR,h];rfl
theorem CH (g:Int) (l:bw):un (.int g) (.ref r.d) ⟨l,H⟩= .ok (d7 r.ss g).isSome ⟨l,H⟩:=by
 unfold un;dsimp only;rw [hR.racks];dsimp only;rw [iR];cases d7 r.ss g<;>rfl
theorem nv {s:bG} (hs:s∈r.ss) (l:bw):aC "size" (.inst "Shelf" s.sh) ⟨l,H⟩= .ok (.int s.sz) ⟨l,H⟩/\aC "page" (.inst "Shelf" s.sh) ⟨l,H⟩= .ok (.int s.pg) ⟨l,H⟩:=by
 have:=(hR.shelf s hs).ob
 exact ⟨lp this rfl,lp this rfl⟩
include hO
theorem oh (l:bw):cN [.ref r.d] ⟨l,H⟩= .ok (.ref H.length) ⟨l,H++[.list ((eD (r.ss.map (·.pg))).map V.int)]⟩:=by
 haveI h:=hO.few
 haveI:(r.ss.map bG.ent).length<64:=by simp;exact id (cU 0x40a01000028a0011 h)
 unfold cN;dsimp only;rw [hR.racks];dsimp only;rw [if_pos this,Ew]
noncomputable def jc (p:Int) (ss:List bG):List Int:=((List.range p.toNat).map Int.ofNat).filter λg=>(d7 ss g).isNone
noncomputable def ofSz (ss:List bG) (z:Int):List Int:=(eD (ss.map (·.pg))).filter λg=>match d7 ss g with | some s=>decide (s.sz=z) | none=>false
noncomputable def mT (ss:List bG):List Int:=(eD (ss.map (·.pg))).filter λg=>match d7 ss g with | some s=>decide (s.bs.count true=0) | none=>false
omit hR hO in
theorem rE:∀(n:Nat) (a:Nat),bN a n=((List.range' a n).map Int.ofNat).map V.int
 | 0,a=>rfl
 | n+1,a=>by
  rw [Al,List.range'_succ,aas,aas,show ((a:Int)+1)=((a+1:Nat):Int) by push_cast;rfl,rE n (a+1)]
  rfl
omit hR hO in
theorem iU (f:Int->Bool) (φ : V->Option V) (h:∀g,φ (.int g)=if f g then some (.int g) else none):∀l:List Int,(l.map V.int).filterMap φ = (l.filter f).map V.int
 | []=>rfl
 | g::l=>by
  rw [aas]
  cases hf:f g with
  | true=>rw [List.filterMap_cons_some (by rw [h,hf];rfl),aaO hf,iU f φ h l];rfl
  | false=>rw [List.filterMap_cons_none (by rw [h,hf];rfl),aaP (by rw [hf];simp),iU f φ h l]
theorem yY:∃H',fH [.inst "Room" ri] H= .ok (.ref H.length) H'/\H'=H++[.list ((jc r.p r.ss).map V.int)]:=by
 obtain ⟨l0,e0,a1⟩:∃l0,aF ["self"] [.inst "Room" ri]=l0/\l0 "self" = some (.inst "Room" ri):=⟨_,rfl,rfl⟩
 refine ⟨_,?_,rfl⟩
 have hp:=hO.p
 haveI hr:∀q,fE [.int r.p] q= .ok ⟨bN 0 r.p.toNat,λ_=>True⟩ q:=λq=>kz _ _ ⟨by exact bQ 0xf4240a1b9019811 hp.1,by exact bQ 0xf4240a09000028a0811 hp.2⟩
 haveI hc:oM ⟨l0,H⟩= .ok (.ref H.length) ⟨l0,H++[.list ((jc r.p r.ss).map V.int)]⟩:=by
  refine iG (it:=⟨bN 0 r.p.toNat,λ_=>True⟩) (H1:=H) ?_ (by rw [gH];exact id (j5 0xf4240a0000fa1000028a0812 hp.2 (aaq (bQ 0x98019811 hp.1)))) ?_
  ·exists a1,du hR,Fw hR,hr
  ·haveI e1:bN 0 r.p.toNat=((List.range r.p.toNat).map Int.ofNat).map V.int:=by rw [List.range_eq_range'];exact rE _ 0
   let φ : V->Option V:=λv=>match v with | .int g=>if (d7 r.ss g).isNone then some (.int g) else none | _=>none
   haveI e2:(jc r.p r.ss).map V.int=(((List.range r.p.toNat).map Int.ofNat).map V.int).filterMap φ := (iU (λg=>(d7 r.ss g).isNone) φ (λ_=>rfl) _).symm
   rw [e2]
   show gj _ _ _ _ _ (bN 0 r.p.toNat) H=_
   rw [e1]
   refine iF trivial φ _ λx hx=> ?_
   obtain ⟨g,_,rfl⟩:=aag.mp hx
   have h1:a9 "page" (.int g) ⟨fx ["self"] l0,H⟩= .ok () ⟨upd (fx ["self"] l0) "page" (.int g),H⟩:=rfl
   have hs:upd (fx ["self"] l0) "page" (.int g) "self" = some (.inst "Room" ri):=gc ∅ ∅ a1
   have eφ : φ (.int g)=if (d7 r.ss g).isNone then some (.int g) else none:=rfl
   rw [eφ]
   cases hf:d7 r.ss g with
   | none =>
    haveI hi:=CH hR g (upd (fx ["self"] l0) "page" (.int g))
    rw [hf] at hi
    refine fR (H2:=H) (H3:=H) h1 ?_ rfl
    exists hs,be hR,hi
   | some s =>
    haveI hi:=CH hR g (upd (fx ["self"] l0) "page" (.int g))
    rw [hf] at hi
    refine gJ (H2:=H) h1 ?_
    exists hs,be hR,hi
 refine aU (m:=sw) (q:=⟨l0,_⟩) rfl ?_
 rw [e0]
 exists hc
end
theorem eS (f:Int->Bool):∀l:List Int,(l.filterMap λg=>if f g then some (V.int g) else none)=(l.filter f).map V.int
 | []=>rfl
 | g::l=>by
  cases hf:f g with
  | true=>rw [List.filterMap_cons_some (by rw [hf];rfl),aaO hf,eS f l];rfl
  | false=>rw [List.filterMap_cons_none (by rw [hf];rfl),aaP (by rw [hf];simp),eS f l]
theorem dY {caps:List String} {x:String} {tst:Cm Bool} {elt:Cm V} {l:bw} {mi:Cm It} {H H1:Hp} {n:Nat} {ks:List Int}
  (hmi:mi ⟨l,H⟩= .ok ⟨ks.map V.int,λH=>ay (.ref n) H=some (ks.map V.int)⟩ ⟨l,H1⟩) (hn:H1[n]? = some (.list (ks.map V.int))) (hlen:ks.length<=1000000) (φ : Int->Option V)
  (hstep:∀g∈ks,∀H',H1<+:H'-> ∃H'',bS (a9 x) tst elt (fx caps l) (.int g) H'= .ok (φ g) H''/\H'<+:H'') :
  ∃H',db caps mi (a9 x) tst elt ⟨l,H⟩= .ok (.ref H'.length) ⟨l,H'++[.list (ks.filterMap φ)]⟩/\H1<+:H':=by
 let ψ : V->Option V:=λv=>match v with | .int g => φ g | _=>none
 obtain ⟨H',h1,h2⟩:=wS (g:=λH=>ay (.ref n) H=some (ks.map V.int)) (bd:=a9 x) (tst:=tst) (elt:=elt) (lc:=fx caps l) H1 (λH' hp=>cA (aG hp hn)) ψ (ks.map V.int) H1 (aac _) λv hv H' hp=>by
  obtain ⟨g,hg,rfl⟩:=aag.mp hv
  exact hstep g hg H' hp
 haveI e:(ks.map V.int).filterMap ψ = ks.filterMap φ := by rw [List.filterMap_map];rfl
 rw [e] at h1
 exact ⟨H',iG hmi (by simpa using hlen) h1,h2⟩
theorem dt {n:Nat} {ks:List Int} {l:bw} {H:Hp} (hn:H[n]? = some (.list (ks.map V.int))):d5 (.ref n) ⟨l,H⟩= .ok ⟨ks.map V.int,λH=>ay (.ref n) H=some (ks.map V.int)⟩ ⟨l,H⟩:=by
 rw [rD,cA hn]
theorem eE {tst:Cm Bool} {elt:Cm V} {x:String} {lc:bw} {v y:V} {H H2 H3:Hp} (h2:tst ⟨upd lc x v,H⟩= .ok true ⟨upd lc x v,H2⟩) (h3:elt ⟨upd lc x v,H2⟩= .ok y ⟨upd lc x v,H3⟩) :
  bS (a9 x) tst elt lc v H= .ok (some y) H3:=fR (u:=()) rfl h2 h3
theorem qE {tst:Cm Bool} {elt:Cm V} {x:String} {lc:bw} {v:V} {H H2:Hp} (h2:tst ⟨upd lc x v,H⟩= .ok false ⟨upd lc x v,H2⟩):bS (a9 x) tst elt lc v H= .ok none H2:=gJ (u:=()) rfl h2
theorem DH {g:Int} {l:List Int}:g∈eD l↔g∈l:=(jj l).mem_iff
theorem qB (l:List Int):(eD l).length=l.length:=(jj l).length_eq
theorem Cs {ss:List bG} (hn:(ss.map (·.pg)).Nodup) {g:Int} (h:g∈eD (ss.map (·.pg))):∃s,A3 (d7 ss g=some s) (s∈ss) (s.pg=g):=by
 obtain ⟨s,hs,rfl⟩:=aag.mp (DH.mp h)
 exact ⟨s,jE hn hs,hs,rfl⟩
section
variable {H:Hp} {ri:Nat} {r:Rm} (hR:aN H ri r) (hO:r.Ok)
include hR hO
theorem vJ (z:Int):∃n H',A4 (dz [.inst "Room" ri,.int z] H= .ok (.ref n) H') (H<+:H') (H'[n]? = some (.list ((ofSz r.ss z).map V.int))) (H.length<=n):=by
 obtain ⟨l0,e0,a1,a2⟩:∃l0,aF ["self", "size"] [.inst "Room" ri,.int z]=l0/\l0 "self" = some (.inst "Room" ri)/\l0 "size" = some (.int z):=⟨_,rfl,rfl,rfl⟩
 haveI hf:=hO.few
 obtain ⟨H',h1,h2⟩:=dY (caps:=["size", "self"]) (x := "page") (l:=l0) (H:=H) (H1:=H++[.list ((eD (r.ss.map (·.pg))).map V.int)]) (n:=H.length) (ks:=eD (r.ss.map (·.pg)))
  (mi:=(((((af "self").b λv2=>aC "racks" v2).b λv3=>(Cm.p ([]:List V)).b λvs4=>Cm.p (v3::vs4)).b λvs1=>cN vs1).b λv5=>d5 v5))
  (tst:=(((((af "self").b λv6=>aC "racks" v6).b λv7=>(af "page").b λv8=>aR v7 v8).b λv9=>aC "size" v9).b λv10=>(af "size").b λv11=>(dE .Eq v10 v11).b λx12=>Cm.p x12))
  (elt:=af "page")
  (by exists a1,be hR,oh hR hO;exact dt (by simp)) (by simp) (by rw [qB];simp;exact aam hf ∅)
  (λg=>if (match d7 r.ss g with | some s=>decide (s.sz=z) | none=>false) then some (V.int g) else none) λg hg Hx hp=>by
   obtain ⟨s,hs,hm,_⟩:=Cs hO.ndp hg
   have hRx:=hR.pre ((aap _ _).trans hp)
   haveI b1:upd (fx ["size", "self"] l0) "page" (.int g) "self" = some (.inst "Room" ri):=gc ∅ ∅ a1
   haveI b2:upd (fx ["size", "self"] l0) "page" (.int g) "size" = some (.int z):=gc ∅ ∅ a2
   refine ⟨Hx,?_,aac _⟩
   rw [hs]
   show bS _ _ _ _ _ _= .ok (if decide (s.sz=z)=true then some (V.int g) else none) Hx
   have ht:∀b,decide (s.sz=z)=b->((((((af "self").b λv6=>aC "racks" v6).b λv7=>(af "page").b λv8=>aR v7 v8).b λv9=>aC "size" v9).b λv10=>(af "size").b λv11=>(dE .Eq v10 v11).b λx12=>Cm.p x12)) ⟨upd (fx ["size", "self"] l0) "page" (.int g),Hx⟩= .ok b ⟨upd (fx ["size", "self"] l0) "page" (.int g),Hx⟩:=λb hb=>by
    exists b1,b2,be hRx,cG hRx hs,(nv hRx hm _).1,hb
   cases hb:decide (s.sz=z) with
   | true=>exact eE (ht true hb) rfl
   | false=>exact qE (ht false hb)
 refine ⟨H'.length,H'++[.list ((ofSz r.ss z).map V.int)],?_,((aap _ _).trans h2).trans (aap _ _),by simp,((aap _ _).trans h2).length_le⟩
 rw [eS] at h1
 refine aU (m:=i9) (q:=⟨l0,_⟩) rfl ?_
 rw [e0]
 simp only [i9,kL,qv,kj,h1,Hy]
 rfl
theorem xC (z:Int):∃n H',A3 (dz [.inst "Room" ri,.int z] H= .ok (.ref n) H') (H<+:H') (H'[n]? = some (.list ((ofSz r.ss z).map V.int))) :=
 let ⟨n,H',h1,h2,h3,_⟩:=vJ hR hO z;⟨n,H',h1,h2,h3⟩
theorem tV:∃n H',A3 (b9 [.inst "Room" ri] H= .ok (.ref n) H') (H<+:H') (H'[n]? = some (.list ((mT r.ss).map V.int))):=by
 obtain ⟨l0,e0,a1⟩:∃l0,aF ["self"] [.inst "Room" ri]=l0/\l0 "self" = some (.inst "Room" ri):=⟨_,rfl,rfl⟩
 haveI hf:=hO.few
 obtain ⟨H',h1,h2⟩:=dY (caps:=["self"]) (x := "page") (l:=l0) (H:=H) (H1:=H++[.list ((eD (r.ss.map (·.pg))).map V.int)]) (n:=H.length) (ks:=eD (r.ss.map (·.pg)))
  (mi:=(((((af "self").b λv2=>aC "racks" v2).b λv3=>(Cm.p ([]:List V)).b λvs4=>Cm.p (v3::vs4)).b λvs1=>cN vs1).b λv5=>d5 v5))
  (tst:=(((((af "self").b λv7=>aC "racks" v7).b λv8=>(af "page").b λv9=>aR v8 v9).b λv10=>(dI "Shelf" "out" v10).b λ_=>(Cm.p ([]:List V)).b λvs6=>br (bO) (v10::vs6)).b λv11=>(Cm.p (V.int 0)).b λv12=>(dE .Eq v11 v12).b λx13=>Cm.p x13))
  (elt:=af "page")
  (by exists a1,be hR,oh hR hO;exact dt (by simp)) (by simp) (by rw [qB];simp;exact aam hf ∅)
  (λg=>if (match d7 r.ss g with | some s=>decide (s.bs.count true=0) | none=>false) then some (V.int g) else none) λg hg Hx hp=>by
   obtain ⟨s,hs,hm,_⟩:=Cs hO.ndp hg
   have hRx:=hR.pre ((aap _ _).trans hp)
   have hSx:=hRx.shelf s hm
   haveI ho:=HD hSx (hO.bslen hm)
   haveI b1:upd (fx ["self"] l0) "page" (.int g) "self" = some (.inst "Room" ri):=gc ∅ ∅ a1
   refine ⟨Hx++[.list (List.replicate (s.bs.count true) (V.bool true))],?_,aap _ _⟩
   rw [hs]
   show bS _ _ _ _ _ _= .ok (if decide (s.bs.count true=0)=true then some (V.int g) else none) _
   have ht:∀b,decide (s.bs.count true=0)=b->((((((af "self").b λv7=>aC "racks" v7).b λv8=>(af "page").b λv9=>aR v8 v9).b λv10=>(dI "Shelf" "out" v10).b λ_=>(Cm.p ([]:List V)).b λvs6=>br (bO) (v10::vs6)).b λv11=>(Cm.p (V.int 0)).b λv12=>(dE .Eq v11 v12).b λx13=>Cm.p x13)) ⟨upd (fx ["self"] l0) "page" (.int g),Hx⟩= .ok b ⟨upd (fx ["self"] l0) "page" (.int g),Hx++[.list (List.replicate (s.bs.count true) (V.bool true))]⟩:=λb hb=>by
    haveI e:decide (((s.bs.count true:Nat):Int)=0)=b:=by rw [<- hb];exact decide_eq_decide.mpr E5
    exists b1,be hRx,cG hRx hs,cZ hSx.ob (IP _ _ _),ho,e
   cases hb:decide (s.bs.count true=0) with
   | true=>exact eE (ht true hb) rfl
   | false=>exact qE (ht false hb)
 refine ⟨H'.length,H'++[.list ((mT r.ss).map V.int)],?_,((aap _ _).trans h2).trans (aap _ _),by simp⟩
 rw [eS] at h1
 refine aU (m:=iZ) (q:=⟨l0,_⟩) rfl ?_
 rw [e0]
 exact bq h1 rfl
omit hO in
theorem tU {s:bG} (hS:jt H s.sh s.t s.pg s.sz s.bs) (k:Int) (hp:0<=s.pg/\s.pg<1000) (hk:0<=k/\k<1000):eP [.inst "Room" ri,.inst "Shelf" s.sh,.int k] H= .ok (.int (s.pg*r.len+k*s.sz)) H:=by
 haveI h1:∀l,aC "page" (.inst "Shelf" s.sh) ⟨l,H⟩= .ok (.int s.pg) ⟨l,H⟩:=λl=>fz hS.ob (GQ _ _ _)
 haveI h2:∀l,aC "size" (.inst "Shelf" s.sh) ⟨l,H⟩= .ok (.int s.sz) ⟨l,H⟩:=λl=>fz hS.ob (GR _ _ _)
 haveI m1:∀q,gx (.int s.pg) (.int r.len) q= .ok (.int (s.pg*r.len)) q:=λq=>uQ _ _ q (IB (by exact hp.1) (by exact bQ 0xf4240a090003e8a0911 hp.2))
 haveI m2:∀q,gx (.int k) (.int s.sz) q= .ok (.int (k*s.sz)) q:=λq=>uQ _ _ q (IB (by exact hk.1) (by exact bQ 0xf4240a090003e8a0911 hk.2))
 obtain ⟨l0,e0,a1,a2,a3⟩:∃l0,aF ["self", "shelf", "slot"] [.inst "Room" ri,.inst "Shelf" s.sh,.int k]=l0/\l0 "self" = some (.inst "Room" ri)/\l0 "shelf" = some (.inst "Shelf" s.sh)/\l0 "slot" = some (.int k):=⟨_,rfl,rfl,rfl,rfl⟩
 refine aU (m:=qk) (q:=⟨l0,H⟩) rfl ?_
 rw [e0]
 exists a1,a2,a3,h1,h2,du hR,uU hR,m1,m2
end
structure dp (F:List Nat) (H H':Hp):Prop where
 len:H.length<=H'.length
 same:∀i,i<H.length->i∉F->H'[i]? = H[i]?
theorem dp.refl (F:List Nat) (H:Hp):dp F H H:=⟨aaD _,λ_ _ _=>rfl⟩
theorem dp.pre {F:List Nat} {H H':Hp} (h:H<+:H'):dp F H H':=⟨h.length_le,λi hi _=>by
 obtain ⟨T,rfl⟩:=h
 rw [aaw hi]⟩
theorem dp.trans {F:List Nat} {H H' H'':Hp} (a:dp F H H') (b:dp F H' H''):dp F H H'' :=
 ⟨aam a.len b.len,λi hi hn=>(b.same i (aa4 hi a.len) hn).trans (a.same i hi hn)⟩
theorem dp.mono {F F':List Nat} {H H':Hp} (a:dp F H H') (h:∀i∈F,i<H.length->i∈F'):dp F' H H':=⟨a.len,λi hi hn=>a.same i hi λhm=>hn (h i hm hi)⟩
theorem dp.set {F:List Nat} {H:Hp} {i:Nat} {o:O} (h:i∈F):dp F H (H.set i o):=⟨by simp,λj hj hn=>aaS (λe:i=j=>hn (e▸h))⟩
theorem dp.get {F:List Nat} {H H':Hp} (a:dp F H H') {i:Nat} {o:O} (h:H[i]? = some o) (hn:i∉F):H'[i]? = some o:=by
 rw [a.same i (aab.mp h).1 hn];exact h
noncomputable def Rm.dep (ri:Nat) (r:Rm):List Nat:=ri::r.pl::r.m::r.d::r.c::(r.ss.map (·.sh)++r.ss.map (·.t))
theorem aN.chg {F:List Nat} {H H':Hp} {ri:Nat} {r:Rm} (h:aN H ri r) (a:dp F H H') (hd:∀i∈r.dep ri,i∉F):aN H' ri r where
 ob:=a.get h.ob (hd _ (by simp [Rm.dep]))
 plan:=a.get h.plan (hd _ (by simp [Rm.dep]))
 sizes:=a.get h.sizes (hd _ (by simp [Rm.dep]))
 racks:=a.get h.racks (hd _ (by simp [Rm.dep]))
 shelf:=λs hs=>⟨a.get (h.shelf s hs).ob (hd _ (by simp [Rm.dep];exact .inr (.inr (.inr (.inr (.inr (.inl ⟨s,hs,rfl⟩))))))),a.get (h.shelf s hs).ls (hd _ (by simp [Rm.dep];exact .inr (.inr (.inr (.inr (.inr (.inr ⟨s,hs,rfl⟩)))))))⟩
 cells:=a.get h.cells (hd _ (by simp [Rm.dep]))
noncomputable def setBs (ss:List bG) (g:Int) (bs:List Bool):List bG:=ss.map λs=>if s.pg=g then { s with bs:=bs } else s
theorem DG (ss:List bG) (g:Int) (bs:List Bool):(setBs ss g bs).map bG.ent=ss.map bG.ent:=by
 unfold setBs
 rw [List.map_map]
 refine List.map_congr_left λs _=> ?_
 show bG.ent (if s.pg=g then { s with bs:=bs } else s)=_
 split<;>rfl
theorem FB (ss:List bG) (g:Int) (bs:List Bool):(setBs ss g bs).map (·.pg)=ss.map (·.pg):=by
 unfold setBs;rw [List.map_map];refine List.map_congr_left λs _=> ?_
 show bG.pg (if s.pg=g then { s with bs:=bs } else s)=_
 split<;>rfl
theorem oj (ss:List bG) (g:Int) (bs:List Bool):(setBs ss g bs).map (·.t)=ss.map (·.t):=by
 unfold setBs;rw [List.map_map];refine List.map_congr_left λs _=> ?_
 show bG.t (if s.pg=g then { s with bs:=bs } else s)=_
 split<;>rfl
theorem oi {ss:List bG} {g:Int} {bs:List Bool} {s:bG} (h:s∈setBs ss g bs):∃s0∈ss,(s0.pg=g/\s={ s0 with bs:=bs })\/(s0.pg≠g/\s=s0):=by
 obtain ⟨s0,h0,rfl⟩:=aag.mp h
 refine ⟨s0,h0,?_⟩
 by_cases e:s0.pg=g
 ·exact .inl ⟨e,by rw [if_pos e]⟩
 ·exact .inr ⟨e,by rw [if_neg e]⟩
theorem qr {α:Type} {f:α->Nat}:∀ {l:List α},(l.map f).Nodup-> ∀ {a b:α},a∈l->b∈l->f a=f b->a=b
 | [],_,_,_,h,_,_=>by cases h
 | x::l,hn,a,b,ha,hb,e=>by
  rw [aas,List.nodup_cons] at hn
  rcases aal.mp ha with h1 | h1<;>rcases aal.mp hb with h2 | h2
  ·rw [h1,h2]
  ·exact absurd (aag.mpr ⟨b,h2,by rw [<- e,h1]⟩) hn.1
  ·exact absurd (aag.mpr ⟨a,h1,by rw [e,h2]⟩) hn.1
  ·exact qr hn.2 h1 h2 e
section
variable {H:Hp} {ri:Nat} {r:Rm} (hR:aN H ri r) (hO:r.Ok)
include hR hO
theorem aN.setBs {s:bG} (hs:s∈r.ss) (bs:List Bool):aN (H.set s.t (.list (bs.map V.bool))) ri { r with ss:=Mine.Lake.setBs r.ss s.pg bs }:=by
 have hls:=(hR.shelf s hs).ls
 have ne:∀ {i:Nat} {o:O},H[i]? = some o->(∀xs,o≠ .list xs)->s.t≠i:=λ{i o} h hn e=>by rw [<- e,hls] at h;cases h;exact hn _ rfl
 have get:∀ {i:Nat} {o:O},H[i]? = some o->s.t≠i->(H.set s.t (.list (bs.map V.bool)))[i]? = some o:=λh hn=>by rw [aaS hn];exact h
 have ht:s.t∈r.ss.map (·.t):=aag.mpr ⟨s,hs,rfl⟩
 refine ⟨get hR.ob (ne hR.ob (by simp)),get hR.plan (ne hR.plan (by simp)),get hR.sizes λe=>hO.mt (e▸ht),?_,λs' hs'=> ?_,get hR.cells λe=>hO.ct (e▸ht)⟩
 ·show (H.set s.t _)[r.d]? = some (.dict ((Mine.Lake.setBs r.ss s.pg bs).map bG.ent))
  rw [DG];exact get hR.racks (ne hR.racks (by simp))
 ·obtain ⟨s0,h0,⟨e,rfl⟩ | ⟨e,rfl⟩⟩:=oi hs'
  ·haveI:s0=s:=Option.some.inj ((jE hO.ndp h0).symm.trans (by rw [e];exact jE hO.ndp hs))
   subst this
   exact ⟨get (hR.shelf _ hs).ob (ne (hR.shelf _ hs).ob (by simp)),by
    show (H.set s0.t _)[s0.t]? = _
    rw [aaB (aab.mp hls).1]⟩
  ·haveI hne:s.t≠s'.t:=λq=>e (by rw [qr hO.ndt hs h0 q])
   exact ⟨get (hR.shelf _ h0).ob (ne (hR.shelf _ h0).ob (by simp)),get (hR.shelf _ h0).ls hne⟩
theorem Rm.Ok.setBs {s:bG} (hs:s∈r.ss) {bs:List Bool} (hl:bs.length=s.bs.length):Rm.Ok { r with ss:=Mine.Lake.setBs r.ss s.pg bs } where
 p:=hO.p
 len:=hO.len
 sz:=hO.sz
 ne:=hO.ne
 ndp:=by show ((Mine.Lake.setBs r.ss s.pg bs).map (·.pg)).Nodup;rw [FB];exact hO.ndp
 ndt:=by show ((Mine.Lake.setBs r.ss s.pg bs).map (·.t)).Nodup;rw [oj];exact hO.ndt
 pg:=λs' hs'=>by
  obtain ⟨s0,h0,⟨e,rfl⟩ | ⟨e,rfl⟩⟩:=oi hs'
  ·exact hO.pg s0 h0
  ·exact hO.pg _ h0
 in':=λs' hs'=>by
  obtain ⟨s0,h0,⟨e,rfl⟩ | ⟨e,rfl⟩⟩:=oi hs'
  ·exact hO.in' s0 h0
  ·exact hO.in' _ h0
 slots:=λs' hs'=>by
  obtain ⟨s0,h0,⟨e,rfl⟩ | ⟨e,rfl⟩⟩:=oi hs'
  ·haveI:s0=s:=Option.some.inj ((jE hO.ndp h0).symm.trans (by rw [e];exact jE hO.ndp hs))
   subst this
   show (bs.length:Int)=_
   rw [hl];exact hO.slots _ h0
  ·exact hO.slots _ h0
 cs:=hO.cs
 ct:=by show r.c∉(Mine.Lake.setBs r.ss s.pg bs).map (·.t);rw [oj];exact hO.ct
 mt:=by show r.m∉(Mine.Lake.setBs r.ss s.pg bs).map (·.t);rw [oj];exact hO.mt
 mc:=hO.mc
theorem aN.setCs (cs:List Int):aN (H.set r.c (.list (cs.map V.int))) ri { r with cs:=cs }:=by
 have hls:=hR.cells
 have ne:∀ {i:Nat} {o:O},H[i]? = some o->(∀xs,o≠ .list xs)->r.c≠i:=λ{i o} h hn e=>by rw [<- e,hls] at h;cases h;exact hn _ rfl
 have get:∀ {i:Nat} {o:O},H[i]? = some o->r.c≠i->(H.set r.c (.list (cs.map V.int)))[i]? = some o:=λh hn=>by rw [aaS hn];exact h
 exact ⟨get hR.ob (ne hR.ob (by simp)),get hR.plan (ne hR.plan (by simp)),get hR.sizes hO.mc.symm,get hR.racks (ne hR.racks (by simp)),
  λs hs=>⟨get (hR.shelf s hs).ob (ne (hR.shelf s hs).ob (by simp)),get (hR.shelf s hs).ls λe=>hO.ct (e▸aag.mpr ⟨s,hs,rfl⟩)⟩,by
   show (H.set r.c _)[r.c]? = _
   rw [aaB (aab.mp hls).1]⟩
theorem Rm.Ok.setCs {cs:List Int} (hl:cs.length=r.cs.length):Rm.Ok { r with cs:=cs } :=
 ⟨hO.p,hO.len,hO.sz,hO.ne,hO.ndp,hO.ndt,hO.pg,hO.in',hO.slots,by show (cs.length:Int)=_;rw [hl];exact hO.cs,hO.ct,hO.mt,hO.mc⟩
noncomputable def ii (ss:List bG) (g:Int):List bG:=ss.filter λs=>s.pg≠g
omit hR hO in
theorem q6:∀(ss:List bG) (g:Int),(ii ss g).map bG.ent=xT g (ss.map bG.ent)
 | [],_=>rfl
 | s::ss,g=>by
  unfold ii xT
  rw [aas]
  by_cases e:s.pg=g
  ·rw [aaP (by simp [e]),aaP (by simp [bG.ent,e])];exact q6 ss g
  ·rw [aaO (by simp [e]),aaO (by simp [bG.ent,e]),aas];congr 1;exact q6 ss g
theorem aN.del (g:Int):aN (H.set r.d (.dict (xT g (r.ss.map bG.ent)))) ri { r with ss:=ii r.ss g }:=by
 have hls:=hR.racks
 haveI ne:∀ {i:Nat} {o:O},H[i]? = some o->(∀xs,o≠ .dict xs)->r.d≠i:=λ{i o} h hn e=>by rw [<- e,hls] at h;cases h;exact hn _ rfl
 have get:∀ {i:Nat} {o:O},H[i]? = some o->(∀xs,o≠ .dict xs)->(H.set r.d (.dict (xT g (r.ss.map bG.ent))))[i]? = some o:=λh hn=>by rw [aaS (ne h hn)];exact h
 refine ⟨get hR.ob (by simp),get hR.plan (by simp),get hR.sizes (by simp),?_,λs hs=> ?_,get hR.cells (by simp)⟩
 ·show (H.set r.d _)[r.d]? = some (.dict ((ii r.ss g).map bG.ent))
  rw [aaB (aab.mp hls).1,q6]
 ·have hm:=(aaF.mp hs).1
  exact ⟨get (hR.shelf s hm).ob (by simp),get (hR.shelf s hm).ls (by simp)⟩
theorem Rm.Ok.del (g:Int):Rm.Ok { r with ss:=ii r.ss g }:=by
 have sub:(ii r.ss g).Sublist r.ss:=List.filter_sublist
 have mem:∀s∈ii r.ss g,s∈r.ss:=λs hs=>sub.mem hs
 exact ⟨hO.p,hO.len,hO.sz,hO.ne,hO.ndp.sublist (sub.map _),hO.ndt.sublist (sub.map _),λs hs=>hO.pg s (mem s hs),λs hs=>hO.in' s (mem s hs),λs hs=>hO.slots s (mem s hs),hO.cs,
  λh=>hO.ct ((sub.map _).mem h),λh=>hO.mt ((sub.map _).mem h),hO.mc⟩
noncomputable def lJ (ss:List bG) (s:bG):List bG:=if (d7 ss s.pg).isSome then ss.map (λa=>if a.pg=s.pg then s else a) else ss++[s]
omit hR hO in
theorem Fq (ss:List bG) (s:bG):(lJ ss s).map bG.ent=zu s.pg (.inst "Shelf" s.sh) (ss.map bG.ent):=by
 unfold lJ zu
 rw [iR,Option.isSome_map]
 split
 ·rw [List.map_map,List.map_map]
  refine List.map_congr_left λa _=> ?_
  show bG.ent (if a.pg=s.pg then s else a)=if (bG.ent a).1=s.pg then ((bG.ent a).1,.inst "Shelf" s.sh) else bG.ent a
  by_cases e:a.pg=s.pg
  ·rw [if_pos e,if_pos (show (bG.ent a).1=s.pg from e)];simp [bG.ent,e]
  ·rw [if_neg e,if_neg (show ¬(bG.ent a).1=s.pg from e)]
 ·rw [List.map_append];rfl
omit hR hO in
theorem gP {ss:List bG} {s x:bG} (h:x∈lJ ss s):x=s\/(x∈ss/\x.pg≠s.pg):=by
 unfold lJ at h
 split at h
 ·obtain ⟨a,ha,rfl⟩:=aag.mp h
  by_cases e:a.pg=s.pg
  ·exact .inl (by rw [if_pos e])
  ·rw [if_neg e];exact .inr ⟨ha,e⟩
 ·rename_i hn
  rcases aao.mp h with h | h
  ·refine .inr ⟨h,λe=>hn ?_⟩
   cases hf:d7 ss s.pg with
   | some _=>rfl
   | none=>exact absurd (aag.mpr ⟨x,h,e⟩) (zF.mp hf)
  ·exact .inl (by simpa using h)
omit hR hO in
theorem GN {ss:List bG} {s:bG} (h1:(ss.map (·.pg)).Nodup) (h2:(ss.map (·.t)).Nodup) (h3:s.t∉ss.map (·.t)):((lJ ss s).map (·.pg)).Nodup/\((lJ ss s).map (·.t)).Nodup:=by
 have hp:ss.Pairwise λa b=>a.pg≠b.pg/\a.t≠b.t:=(List.pairwise_map.mp h1).and (List.pairwise_map.mp h2)
 have key:(lJ ss s).Pairwise λa b=>a.pg≠b.pg/\a.t≠b.t:=by
  unfold lJ
  split
  ·refine List.pairwise_map.mpr (hp.imp_of_mem λ{a b} ha hb hab=> ?_)
   by_cases e1:a.pg=s.pg<;>by_cases e2:b.pg=s.pg
   ·exact absurd (e1.trans e2.symm) hab.1
   ·rw [if_pos e1,if_neg e2];exact ⟨λe=>e2 e.symm,λe=>h3 (aag.mpr ⟨b,hb,e.symm⟩)⟩
   ·rw [if_neg e1,if_pos e2];exact ⟨e1,λe=>h3 (aag.mpr ⟨a,ha,e⟩)⟩
   ·rw [if_neg e1,if_neg e2];exact hab
  ·rename_i hn
   refine aar.mpr ⟨hp,by simp,λa ha b hb=> ?_⟩
   simp at hb
   subst hb
   refine ⟨λe=>hn ?_,λe=>h3 (aag.mpr ⟨a,ha,e⟩)⟩
   cases hf:d7 ss b.pg with
   | some _=>rfl
   | none=>exact absurd (aag.mpr ⟨a,ha,e⟩) (zF.mp hf)
 exact ⟨List.pairwise_map.mpr (key.imp λh=>h.1),List.pairwise_map.mpr (key.imp λh=>h.2)⟩
theorem aN.put {g z:Int} {k:Nat} {s:bG} (hs:s=⟨g,H.length,H.length+2,z,List.replicate k false⟩) :
  aN ((H++[O.flds (hY g z (H.length+2)),O.list [V.bool false],O.list ((List.replicate k false).map V.bool)]).set r.d (.dict (zu g (.inst "Shelf" H.length) (r.ss.map bG.ent)))) ri { r with ss:=lJ r.ss s }:=by
 have hdl:=(aab.mp hR.racks).1
 haveI ne:∀ {i:Nat} {o:O},H[i]? = some o->(∀xs,o≠ .dict xs)->r.d≠i:=λ{i o} h hn e=>by rw [<- e,hR.racks] at h;cases h;exact hn _ rfl
 have get:∀ {i:Nat} {o:O},H[i]? = some o->(∀xs,o≠ .dict xs)->((H++[O.flds (hY g z (H.length+2)),O.list [V.bool false],O.list ((List.replicate k false).map V.bool)]).set r.d (.dict (zu g (.inst "Shelf" H.length) (r.ss.map bG.ent))))[i]? = some o:=λh hn=>by
  rw [aaS (ne h hn)];exact aG ⟨_,rfl⟩ h
 refine ⟨get hR.ob (by simp),get hR.plan (by simp),get hR.sizes (by simp),?_,λs' hs'=> ?_,get hR.cells (by simp)⟩
 ·show (List.set _ r.d _)[r.d]? = some (O.dict ((lJ r.ss s).map bG.ent))
  rw [aaB (by simp;exact id (cM 0x391c0110111 hdl)),Fq,hs]
 ·rcases gP hs' with rfl | ⟨hm,_⟩
  ·subst hs
   refine ⟨?_,?_⟩
   ·show (List.set _ r.d _)[H.length]? = _
    rw [aaS (by exact λx9=>cM 0x9096103110112 hdl x9)];simp
   ·show (List.set _ r.d _)[H.length+2]? = _
    rw [aaS (by exact λx9=>cM 0x9096291c03110112 hdl x9)];simp
  ·exact ⟨get (hR.shelf s' hm).ob (by simp),get (hR.shelf s' hm).ls (by simp)⟩
theorem Rm.Ok.put {s:bG} (h1:0<=s.pg/\s.pg<r.p) (h2:s.sz∈r.xs) (h3:(s.bs.length:Int)=r.len.fdiv s.sz) (h4:H.length<=s.t):Rm.Ok { r with ss:=lJ r.ss s }:=by
 haveI hlt:∀s'∈r.ss,s'.t<H.length:=λs' hs'=>(aab.mp (hR.shelf s' hs').ls).1
 have h5:s.t∉r.ss.map (·.t):=λhm=>by
  obtain ⟨s',hs',e⟩:=aag.mp hm
  haveI:=hlt s' hs'
  exact id (mK 0x90960211123110013 h4 e this)
 obtain ⟨p1,p2⟩:=GN hO.ndp hO.ndt h5
 haveI hc:=(aab.mp hR.cells).1
 haveI hm:=(aab.mp hR.sizes).1
 refine ⟨hO.p,hO.len,hO.sz,hO.ne,p1,p2,λx hx=> ?_,λx hx=> ?_,λx hx=> ?_,hO.cs,λhx=> ?_,λhx=> ?_,hO.mc⟩
 ·rcases gP hx with rfl | ⟨hx,_⟩
  ·exact h1
  ·exact hO.pg x hx
 ·rcases gP hx with rfl | ⟨hx,_⟩
  ·exact h2
  ·exact hO.in' x hx
 ·rcases gP hx with rfl | ⟨hx,_⟩
  ·exact h3
  ·exact hO.slots x hx
 ·obtain ⟨x,hx,e⟩:=aag.mp hx
  rcases gP hx with rfl | ⟨hx,_⟩
  ·dsimp only at e;exact id (mK 0x90960221210110113 hc h4 e)
  ·exact hO.ct (aag.mpr ⟨x,hx,e⟩)
 ·obtain ⟨x,hx,e⟩:=aag.mp hx
  rcases gP hx with rfl | ⟨hx,_⟩
  ·dsimp only at e;exact id (mK 0x90960221210110113 hm h4 e)
  ·exact hO.mt (aag.mpr ⟨x,hx,e⟩)
end
theorem oP:∀(l:List bG) (s:bG),(d7 l s.pg).isSome=true->d7 (l.map λa=>if a.pg=s.pg then s else a) s.pg=some s
 | [],s,h=>by simp [d7] at h
 | a::l,s,h=>by
  unfold d7
  rw [aas]
  by_cases e:a.pg=s.pg
  ·rw [if_pos e,aaC (by simp)]
  ·rw [if_neg e,aay (p:=λs':bG=>s'.pg==s.pg) (by simpa using e)]
   refine oP l s ?_
   unfold d7 at h
   rw [aay (p:=λs':bG=>s'.pg==s.pg) (by simpa using e)] at h
   exact h
theorem mW (ss:List bG) (s:bG):d7 (lJ ss s) s.pg=some s:=by
 unfold lJ
 split
 ·rename_i h;exact oP ss s h
 ·rename_i h
  haveI hn:d7 ss s.pg=none:=by cases hf:d7 ss s.pg with | none=>rfl | some _=>rw [hf] at h;simp at h
  unfold d7 at hn ⊢
  rw [List.find?_append,hn]
  simp
theorem Fh {p:Int} {ss:List bG} {g:Int} (h:g∈jc p ss):(0<=g/\g<p)/\d7 ss g=none:=by
 unfold jc at h
 obtain ⟨h1,h2⟩:=aaF.mp h
 obtain ⟨k,hk,rfl⟩:=aag.mp h1
 haveI:=List.mem_range.mp hk
 refine ⟨⟨by simp,Int.lt_toNat.mp this⟩,?_⟩
 simpa using h2
theorem Eu {ss:List bG} {g:Int} (h:g∈mT ss):∃s,d7 ss g=some s/\s.bs.count true=0:=by
 unfold mT at h
 obtain ⟨h1,h2⟩:=aaF.mp h
 split at h2
 ·rename_i s hs;exact ⟨s,hs,by simpa using h2⟩
 ·cases h2
noncomputable def tQ (p:Int) (ss:List bG):Option Int:=match jc p ss with
 | g::_=>some g
 | []=>(mT ss).head?
section
variable {H:Hp} {ri:Nat} {r:Rm} (hR:aN H ri r) (hO:r.Ok)
include hR hO
theorem BB {z:Int} (hz:z∈r.xs):ee [.inst "Plan" r.pl,.int z] H= .ok (.int (r.len.fdiv z)) H:=by
 haveI h1:=hO.sz.low z hz
 rw [HE H r.pl r.p r.len r.xs z hR.isPlan (λ_=>by exact λx9=>bQ 0x9096090a1019812 h1 x9),if_pos hz]
theorem rA {z:Int} (hz:z∈r.xs):1<=r.len.fdiv z/\r.len.fdiv z<=60:=by
 haveI h1:=hO.sz.low z hz
 haveI h2:=hO.sz.top z hz
 have h3:=hO.len
 obtain ⟨a,b,c,d⟩:=er (a:=r.len) (b:=z) (by exact bQ 0x98019811 h3.1) h1
 exact ⟨zB a d h2,by exact td 0x3ca18018100003ca0812 h3.2 b⟩
theorem ui {l:bw} {n:Nat} {g z:Int} {rest:List Int} (a1:l "self" = some (.inst "Room" ri)) (a2:l "size" = some (.int z)) (a3:l "pages" = some (.ref n)) (hn:H[n]? = some (.list ((g::rest).map V.int))) (hz:z∈r.xs) :
  ∃H',A3 (aw (nI) (nJ) ⟨l,H⟩= .ok (.ret (.inst "Shelf" H.length)) ⟨l,H'⟩) (aN H' ri { r with ss:=lJ r.ss ⟨g,H.length,H.length+2,z,List.replicate (r.len.fdiv z).toNat false⟩ }) (dp [r.d] H H'):=by
 haveI hp:=BB hR hO hz
 obtain ⟨p1,p2⟩:=rA hR hO hz
 haveI hmk:=IW H g z (r.len.fdiv z) ⟨by exact bQ 0x98019811 p1,by exact bQ 0x3e8a0800003ca0811 p2⟩
 obtain ⟨k,hk⟩:∃k,(r.len.fdiv z).toNat=k:=⟨_,rfl⟩
 rw [hk] at hmk ⊢
 haveI hdl:=(aab.mp hR.racks).1
 have hP:=aN.put hR hO (g:=g) (z:=z) (k:=k) rfl
 obtain ⟨H2,eH2⟩:∃H2,H++[O.flds (hY g z (H.length+2)),O.list [V.bool false],O.list ((List.replicate k false).map V.bool)]=H2:=⟨_,rfl⟩
 rw [eH2] at hP hmk
 have pre2:H<+:H2:=⟨_,eH2⟩
 have hR2:=hR.pre pre2
 obtain ⟨H3,eH3⟩:∃H3,H2.set r.d (.dict (zu g (.inst "Shelf" H.length) (r.ss.map bG.ent)))=H3:=⟨_,rfl⟩
 rw [eH3] at hP
 haveI hit:∀l,aR (.ref n) (.int 0) ⟨l,H⟩= .ok (.int g) ⟨l,H⟩:=λl=>xV hn
 haveI hit2:∀l,aR (.ref n) (.int 0) ⟨l,H2⟩= .ok (.int g) ⟨l,H2⟩:=λl=>xV (aG pre2 hn)
 haveI hne:r.d≠n:=λe=>by rw [<- e,hR.racks] at hn;cases hn
 haveI hit3:∀l,aR (.ref n) (.int 0) ⟨l,H3⟩= .ok (.int g) ⟨l,H3⟩:=λl=>by
  haveI:H3[n]? = some (.list ((g::rest).map V.int)):=by rw [<- eH3,aaS hne];exact aG pre2 hn
  exact xV this
 haveI hfew:=hO.few
 haveI hset:∀l,dn (.ref r.d) (.int g) (.inst "Shelf" H.length) ⟨l,H2⟩= .ok () ⟨l,H3⟩:=λl=>by
  haveI:(r.ss.map bG.ent).length<1000000:=by simp;exact id (cU 0xf4240a01000028a0011 hfew)
  unfold dn;dsimp only;rw [hR2.racks];dsimp only;rw [if_pos this,eH3]
 haveI hm:∀l,dI "Plan" "per" (.inst "Plan" r.pl) ⟨l,H⟩= .ok () ⟨l,H⟩:=λl=>cZ hR.plan (Fk _ _ _)
 refine ⟨H3,?_,hP,(dp.pre pre2).trans (by rw [<- eH3];exact dp.set (by simp))⟩
 refine ai (q':=⟨l,H3⟩) ?_ ?_
 ·exists a1,a2,a3,hit,du hR,hm,hp,hmk,be hR2,hit2,hset
 ·haveI hf:=mW r.ss ⟨g,H.length,H.length+2,z,List.replicate k false⟩
  exists a1,a3,be hP,hit3,cG hP hf
theorem GU {z:Int} (hz:z∈r.xs):match tQ r.p r.ss with
  | none=> ∃H',iq [.inst "Room" ri,.int z] H= .exc "NoRoom" H'/\H<+:H'
  | some g=> ∃n H',iq [.inst "Room" ri,.int z] H= .ok (.inst "Shelf" n) H'/\H.length<=n/\n+2<H'.length/\(0<=g/\g<r.p) /\
    aN H' ri { r with ss:=lJ r.ss ⟨g,n,n+2,z,List.replicate (r.len.fdiv z).toNat false⟩ }/\dp [r.d] H H':=by
 obtain ⟨l0,e0,a1,a2⟩:∃l0,aF ["self", "size"] [.inst "Room" ri,.int z]=l0/\l0 "self" = some (.inst "Room" ri)/\l0 "size" = some (.int z):=⟨_,rfl,rfl,rfl⟩
 obtain ⟨_,hpl,rfl⟩:=yY hR hO
 refine bz (H++[O.list ((jc r.p r.ss).map V.int)]) λH1 eH1=> ?_
 rw [eH1] at hpl
 have pre1:H<+:H1:=⟨_,eH1⟩
 have x1:H1[H.length]? = some (.list ((jc r.p r.ss).map V.int)):=by rw [<- eH1];exact aY _ _
 haveI hR1:=hR.pre pre1
 haveI hm:∀ {f:String} {Hx:Hp} (hRx:aN Hx ri r) (h:f ≠ "plan" /\ f ≠ "racks" /\ f ≠ "cells") (l:bw),dI "Room" f (.inst "Room" ri) ⟨l,Hx⟩= .ok () ⟨l,Hx⟩:=λhRx h l=>aH hRx h l
 have s1:nH ⟨l0,H⟩= .ok .next ⟨upd l0 "pages" (.ref H.length),H1⟩:=by
  exists a1,aH hR (f := "pile") ⟨by decide,by decide,by decide⟩,hpl
 refine bz (upd l0 "pages" (.ref H.length)) λl1 el1=> ?_
 rw [el1] at s1
 have b1:l1 "self" = some (.inst "Room" ri):=ah el1 ∅ a1
 have b2:l1 "size" = some (.int z):=ah el1 ∅ a2
 have b3:l1 "pages" = some (.ref H.length):=aA el1
 have nw:∀(l:bw) (Hx:Hp),dr [] ⟨l,Hx⟩= .ok (.ref Hx.length) ⟨l,Hx++[.list []]⟩:=λl Hx=>g_nl0 rfl
 have cmp:∀(l:bw) (Hx:Hp) (n:Nat) (ks:List Int),Hx[n]? = some (.list (ks.map V.int))->ko (.ref n) (.ref Hx.length) ⟨l,Hx++[.list []]⟩= .ok (decide (ks=[])) ⟨l,Hx++[.list []]⟩:=λl Hx n ks h =>
  n9 (q:=⟨l,Hx++[.list []]⟩) (ys:=[]) (aG ⟨_,rfl⟩ h) (aY _ _)
 refine bz (H1++[O.list []]) λH2 eH2=> ?_
 have pre2:H1<+:H2:=⟨_,eH2⟩
 have hR2:=hR1.pre pre2
 have c2:=cmp l1 H1 H.length _ x1
 have n2:=nw l1 H1
 rw [eH2] at c2 n2
 unfold tQ
 cases hpile:jc r.p r.ss with
 | cons g rest =>
  rw [hpile] at x1 c2
  have s2:jk ⟨l1,H1⟩= .ok .next ⟨l1,H2⟩:=by
   exists b3,n2,c2
  refine bz (H2++[O.list []]) λH3 eH3=> ?_
  have pre3:H2<+:H3:=⟨_,eH3⟩
  have c3:=cmp l1 H2 H.length _ (aG pre2 x1)
  have n3:=nw l1 H2
  rw [eH3] at c3 n3
  haveI s3:ge ⟨l1,H2⟩= .ok .next ⟨l1,H3⟩:=by
   exists b3,n3,c3
  haveI hR3:=hR2.pre pre3
  obtain ⟨H4,s4,k1,k2⟩:=ui hR3 hO b1 b2 b3 (aG (pre2.trans pre3) x1) hz
  have p03:=(pre1.trans pre2).trans pre3
  refine ⟨H3.length,H4,aU (m:=iB) (q:=⟨l1,H4⟩) rfl (by rw [e0];exact ai s1 (ai s2 (ai s3 s4))),p03.length_le,?_,(Fh (by rw [hpile];exact .head _)).1,k1,(dp.pre p03).trans k2⟩
  haveI:=k1.shelf _ (aW (mW r.ss ⟨g,H3.length,H3.length+2,z,List.replicate (r.len.fdiv z).toNat false⟩)).1
  exact (aab.mp this.ls).1
 | nil =>
  rw [hpile] at x1 c2
  obtain ⟨n,H3,he,pre3,x3⟩:=tV hR2 hO
  haveI hR3:=hR2.pre pre3
  haveI s2:jk ⟨l1,H1⟩= .ok .next ⟨upd l1 "pages" (.ref n),H3⟩:=by
   exists b3,n2,c2,b1,aH hR2 (f := "empty_pages") ⟨by decide,by decide,by decide⟩,he
  refine bz (upd l1 "pages" (.ref n)) λl2 el2=> ?_
  rw [el2] at s2
  haveI d1:l2 "self" = some (.inst "Room" ri):=ah el2 ∅ b1
  haveI d2:l2 "size" = some (.int z):=ah el2 ∅ b2
  have d3:l2 "pages" = some (.ref n):=aA el2
  refine bz (H3++[O.list []]) λH4 eH4=> ?_
  have pre4:H3<+:H4:=⟨_,eH4⟩
  haveI c3:=cmp l2 H3 n _ x3
  haveI n3:=nw l2 H3
  rw [eH4] at c3 n3
  have p04:=((pre1.trans pre2).trans pre3).trans pre4
  cases hem:mT r.ss with
  | nil =>
   rw [hem] at c3
   haveI s3x:ge ⟨l2,H3⟩= .exc "NoRoom" ⟨l2,H4⟩:=by
    exists d3,n3,c3
   exact ⟨H4,ce (m:=iB) (q:=⟨l2,H4⟩) rfl (by rw [e0];exact ai s1 (ai s2 (bY s3x))),p04⟩
  | cons g rest =>
   rw [hem] at c3 x3
   haveI s3:ge ⟨l2,H3⟩= .ok .next ⟨l2,H4⟩:=by
    exists d3,n3,c3
   haveI hR4:=hR3.pre pre4
   obtain ⟨H5,s4,k1,k2⟩:=ui hR4 hO d1 d2 d3 (aG pre4 x3) hz
   obtain ⟨s,hs,_⟩:=Eu (ss:=r.ss) (g:=g) (by rw [hem];exact .head _)
   obtain ⟨hsm,rfl⟩:=aW hs
   refine ⟨H4.length,H5,aU (m:=iB) (q:=⟨l2,H5⟩) rfl (by rw [e0];exact ai s1 (ai s2 (ai s3 s4))),p04.length_le,?_,hO.pg s hsm,k1,(dp.pre p04).trans k2⟩
   haveI:=k1.shelf _ (aW (mW r.ss ⟨s.pg,H4.length,H4.length+2,z,List.replicate (r.len.fdiv z).toNat false⟩)).1
   exact (aab.mp this.ls).1
end
abbrev Vw:=Int->Option (Int×List Bool)
noncomputable def look (ss:List bG):Vw:=λg=>(d7 ss g).map λs=>(s.sz,s.bs)
noncomputable def dq (F:Vw) (g:Int) (v:Option (Int×List Bool)):Vw:=λx=>if x=g then v else F x
theorem dh (F:Vw) (g:Int) (v:Option (Int×List Bool)):dq F g v g=v:=by simp [dq]
theorem iE (F:Vw) {g x:Int} (v:Option (Int×List Bool)) (h:x≠g):dq F g v x=F x:=by simp [dq,h]
noncomputable def gI (p:Int):List Int:=(List.range p.toNat).map Int.ofNat
noncomputable def cX (p:Int) (F:Vw):List Int:=(gI p).filter λg=>(F g).isSome
theorem qW {p g:Int}:g∈gI p↔0<=g/\g<p:=by
 unfold gI
 rw [aag]
 constructor
 ·rintro ⟨k,hk,rfl⟩
  haveI:=List.mem_range.mp hk
  exact ⟨by simp,Int.lt_toNat.mp this⟩
 ·rintro ⟨h1,h2⟩
  exact ⟨g.toNat,List.mem_range.mpr (by exact hH [_,_] [_,_] 0x1011f18100fa110913 h2 (aaq h1) (Int.self_le_toNat _)),by simp;exact Int.max_eq_left h1⟩
theorem ik (p:Int):(gI p).Pairwise (· < ·):=List.pairwise_map.mpr (List.pairwise_lt_range.imp λh=>by simpa using h)
theorem uC {l:List Int} (h:l.Pairwise (· < ·)):l.Nodup:=h.imp λh e=>by exact td 0x909610b110912 h e
theorem iY {p:Int} {F:Vw} {g:Int}:g∈cX p F↔(0<=g/\g<p)/\(F g).isSome=true:=by
 unfold cX;rw [aaF,qW]
theorem bn {ss:List bG} {g:Int} {v:Int×List Bool} (h:look ss g=some v):∃s,A3 (d7 ss g=some s) (s.sz=v.1) (s.bs=v.2):=by
 unfold look at h
 cases hf:d7 ss g with
 | none=>rw [hf] at h;cases h
 | some s=>rw [hf] at h;cases h;exact ⟨s,rfl,rfl,rfl⟩
theorem Gn {p:Int} {ss:List bG} (hn:(ss.map (·.pg)).Nodup) (hp:∀s∈ss,0<=s.pg/\s.pg<p):eD (ss.map (·.pg))=cX p (look ss):=by
 have hs:(cX p (look ss)).Pairwise (· < ·):=(ik p).filter _
 refine (vd ?_ (hs.imp λh=>by exact td 0x10810911 h)).symm
 refine (List.perm_ext_iff_of_nodup (uC hs) hn).mpr λg=> ?_
 rw [iY]
 constructor
 ·rintro ⟨_,h⟩
  cases hf:look ss g with
  | none=>rw [hf] at h;cases h
  | some v =>
   obtain ⟨s,hs,_⟩:=bn hf
   obtain ⟨h1,h2⟩:=aW hs
   exact aag.mpr ⟨s,h1,h2⟩
 ·intro h
  obtain ⟨s,hs,rfl⟩:=aag.mp h
  exact ⟨hp s hs,by unfold look;rw [jE hn hs];rfl⟩
noncomputable def mI (F:Vw) (z g:Int):Bool:=match F g with | some v=>decide (v.1=z) | none=>false
noncomputable def Es (F:Vw) (g:Int):Bool:=match F g with | some v=>decide (v.2.count true=0) | none=>false
theorem Gr (ss:List bG) (z g:Int):(match d7 ss g with | some s=>decide (s.sz=z) | none=>false)=mI (look ss) z g:=by
 unfold mI look;cases d7 ss g<;>rfl
theorem Gq (ss:List bG) (g:Int):(match d7 ss g with | some s=>decide (s.bs.count true=0) | none=>false)=Es (look ss) g:=by
 unfold Es look;cases d7 ss g<;>rfl
noncomputable def cP (p:Int) (F:Vw) (z:Int):List Int:=(cX p F).filter (mI F z)
noncomputable def mF (p:Int) (F:Vw):List Int:=(cX p F).filter (Es F)
noncomputable def pZ (p:Int) (F:Vw):List Int:=(gI p).filter λg=>(F g).isNone
theorem tS (p:Int) (ss:List bG):jc p ss=pZ p (look ss):=by
 unfold jc pZ gI
 refine List.filter_congr λg _=> ?_
 unfold look;cases d7 ss g<;>rfl
noncomputable def EC (p:Int) (F:Vw):Option Int:=match pZ p F with
 | g::_=>some g
 | []=>(mF p F).head?
theorem pE (f:bG->bG) (hf:∀s,(f s).pg=s.pg):∀(ss:List bG) (g:Int),d7 (ss.map f) g=(d7 ss g).map f
 | [],_=>rfl
 | a::ss,g=>by
  unfold d7
  rw [aas]
  by_cases e:a.pg=g
  ·rw [aaC (by simpa [hf] using e),aaC (by simpa using e)];rfl
  ·rw [aay (p:=λs:bG=>s.pg==g) (by simpa [hf] using e),aay (p:=λs:bG=>s.pg==g) (by simpa using e)];exact pE f hf ss g
theorem pK {ss:List bG} {g:Int} {s:bG} (h:d7 ss g=some s) (bs:List Bool):look (setBs ss g bs)=dq (look ss) g (some (s.sz,bs)):=by
 funext x
 have e:=pE (λs=>if s.pg=g then { s with bs:=bs } else s) (λs=>by split<;>rfl) ss x
 unfold look setBs
 rw [e]
 by_cases hx:x=g
 ·subst hx
  rw [h,dh]
  have:=(aW h).2
  simp [this]
 ·rw [iE _ _ hx]
  cases hf:d7 ss x with
  | none=>rfl
  | some a =>
   haveI:=(aW hf).2
   simp [this,hx]
theorem Ch (g:Int):∀(ss:List bG) (x:Int),d7 (ii ss g) x=if x=g then none else d7 ss x
 | [],x=>by simp [ii,d7]
 | a::ss,x=>by
  have ih:=Ch g ss x
  unfold ii at ih ⊢
  by_cases e:a.pg=g
  ·rw [aaP (by simp [e]),ih]
   by_cases hx:x=g
   ·rw [if_pos hx,if_pos hx]
   ·rw [if_neg hx,if_neg hx];unfold d7;rw [aay (p:=λs:bG=>s.pg==x) (xQ e hx)]
  ·rw [aaO (by simp [e])]
   unfold d7 at ih ⊢
   by_cases e2:a.pg=x
   ·rw [aaC (by simpa using e2),aaC (by simpa using e2),if_neg λq=>e (e2.trans q)]
   ·rw [aay (p:=λs:bG=>s.pg==x) (by simpa using e2),aay (p:=λs:bG=>s.pg==x) (by simpa using e2)];exact ih
theorem uA (ss:List bG) (g:Int):look (ii ss g)=dq (look ss) g none:=by
 funext x
 unfold look dq
 rw [Ch]
 split<;>rfl
theorem Ba (ss:List bG) (s:bG) {x:Int} (hx:x≠s.pg):d7 (lJ ss s) x=d7 ss x:=by
 unfold lJ
 split
 ·rename_i h0
  clear h0
  induction ss with
  | nil=>rfl
  | cons a ss ih =>
   unfold d7 at ih ⊢
   rw [aas]
   by_cases e:a.pg=s.pg
   ·rw [if_pos e,aay (p:=λs:bG=>s.pg==x) (xQ rfl hx),aay (p:=λs:bG=>s.pg==x) (xQ e hx),ih]
   ·rw [if_neg e]
    by_cases e2:a.pg=x
    ·rw [aaC (by simpa using e2),aaC (by simpa using e2)]
    ·rw [aay (p:=λs:bG=>s.pg==x) (by simpa using e2),aay (p:=λs:bG=>s.pg==x) (by simpa using e2),ih]
 ·unfold d7
  rw [List.find?_append,aay (p:=λs:bG=>s.pg==x) (xQ rfl hx)]
  simp
theorem EW (ss:List bG) (s:bG):look (lJ ss s)=dq (look ss) s.pg (some (s.sz,s.bs)):=by
 funext x
 by_cases hx:x=s.pg
 ·subst hx;rw [dh];unfold look;rw [mW];rfl
 ·rw [iE _ _ hx];unfold look;rw [Ba _ _ hx]
theorem Rm.Ok.keys {r:Rm} (h:r.Ok):eD (r.ss.map (·.pg))=cX r.p (look r.ss):=Gn h.ndp h.pg
theorem Rm.Ok.ofSz {r:Rm} (h:r.Ok) (z:Int):Mine.Lake.ofSz r.ss z=cP r.p (look r.ss) z:=by
 unfold Mine.Lake.ofSz cP;rw [h.keys];exact List.filter_congr λg _=>Gr r.ss z g
theorem Rm.Ok.empt {r:Rm} (h:r.Ok):mT r.ss=mF r.p (look r.ss):=by
 unfold mT mF;rw [h.keys];exact List.filter_congr λg _=>Gq r.ss g
theorem Rm.Ok.fresh {r:Rm} (h:r.Ok):tQ r.p r.ss=EC r.p (look r.ss):=by
 unfold tQ EC;rw [tS,h.empt];try rfl
noncomputable def gh (F:Vw) (g:Int):Nat:=match F g with | some v=>v.2.count true | none=>0
noncomputable def zg (F:Vw) (n:Nat):Option Int->Bool
 | none=>true
 | some g'=>decide (gh F g'<n)
noncomputable def I9 (F:Vw) (b:Option Int) (g:Int):Bool:=match F g with
 | some v=>(bA v.2).isSome&&zg F (v.2.count true) b
 | none=>false
noncomputable def Gc (F:Vw):Option Int->List Int->Option Int
 | b,[]=>b
 | b,g::r=>Gc F (if I9 F b g then some g else b) r
theorem rd:∀(bs:List Bool) (a:Int),decide (gN a bs=[]) = !(bA bs).isSome
 | [],_=>rfl
 | false::r,a=>rfl
 | true::r,a=>by
  haveI:=rd r (a+1)
  show decide (gN (a+1) r=[]) = !((bA r).map (· + 1)).isSome
  rw [Option.isSome_map];exact this
theorem B1 {F:Vw}:∀ {l:List Int} {b:Option Int} {g:Int},Gc F b l=some g->b=some g\/(g∈l/\ ∃v,F g=some v/\(bA v.2).isSome=true)
 | [],b,g,h=> .inl h
 | x::l,b,g,h=>by
  change Gc F (if I9 F b x then some x else b) l=some g at h
  rcases B1 h with h1 | ⟨h1,h2⟩
  ·split at h1
   ·rename_i hok
    cases h1
    refine .inr ⟨.head _,?_⟩
    unfold I9 at hok
    split at hok
    ·rename_i v hv;exact ⟨v,hv,by simp at hok;simp [hok.1]⟩
    ·cases hok
   ·exact .inl h1
  ·exact .inr ⟨.tail _ h1,h2⟩
section
variable {H:Hp} {ri:Nat} {r:Rm} (hR:aN H ri r) (hO:r.Ok)
noncomputable def wQ (ss:List bG):Option Int->V
 | none=> .none
 | some g=>match d7 ss g with | some s=> .inst "Shelf" s.sh | none=> .none
inductive JF (H:Hp) (ri:Nat) (r:Rm) (z w:Int) (B:Option Int) (rem:List V) (q:S):Prop
 | mk (b:Option Int) (ys:List Int) (f0:rem=ys.map V.int) (f1:(∀g∈ys,∃s,d7 r.ss g=some s)) (f2:Gc (look r.ss) b ys=B) (f3:(∀g,b=some g-> ∃s,d7 r.ss g=some s)) (f4:q.l "best" = some (wQ r.ss b)) (f5:q.l "self" = some (.inst "Room" ri)) (f6:q.l "size" = some (.int z)) (f7:H<+:q.H)
include hR hO
theorem yv {s:bG} (hs:s∈r.ss) (l:bw):(∀l,dI "Shelf" "free" (.inst "Shelf" s.sh) ⟨l,H⟩= .ok () ⟨l,H⟩)/\br (eQ) [.inst "Shelf" s.sh] ⟨l,H⟩= .ok (.ref H.length) ⟨l,H++[.list ((gN 0 s.bs).map V.int)]⟩:=by
 have hS:=hR.shelf s hs
 exact ⟨λl=>cZ hS.ob rfl,by rw [rC,IT hS (hO.bslen hs)]⟩
theorem uV {s:bG} (hs:s∈r.ss) (l:bw):(∀l,dI "Shelf" "out" (.inst "Shelf" s.sh) ⟨l,H⟩= .ok () ⟨l,H⟩)/\br (bO) [.inst "Shelf" s.sh] ⟨l,H⟩= .ok (.int (s.bs.count true)) ⟨l,H++[.list (List.replicate (s.bs.count true) (V.bool true))]⟩:=by
 have hS:=hR.shelf s hs
 exact ⟨λl=>cZ hS.ob rfl,by rw [rC,HD hS (hO.bslen hs)]⟩
theorem Dc {z w:Int} {B:Option Int} (x:V) (rem:List V) (q:S) (hI:JF H ri r z w B (x::rem) q):∃q',A3 (((a9 "page" x).b λ_=>jR) q= .ok .next q') (q.H<+:q'.H) (JF H ri r z w B rem q'):=by
 obtain ⟨b,ys,e,h1,h2,h3,h4,h5,h6,h7⟩:=hI
 obtain ⟨l,Hq⟩:=q
 dsimp only at h4 h5 h6 h7
 cases ys with
 | nil=>simp at e
 | cons g ys =>
  obtain ⟨rfl,rfl⟩:x= .int g/\rem=ys.map V.int:=by simpa using e
  obtain ⟨s,hs⟩:=h1 g (.head _)
  have hm:=(aW hs).1
  have hRq:=hR.pre h7
  haveI hl:look r.ss g=some (s.sz,s.bs):=by unfold look;rw [hs];rfl
  refine bz (Hq++[O.list ((gN 0 s.bs).map V.int)]) λH2 e2=> ?_
  refine bz (H2++[O.list []]) λH3 e3=> ?_
  have p2:Hq<+:H2:=⟨_,e2⟩
  have p3:H2<+:H3:=⟨_,e3⟩
  refine bz (upd (upd l "page" (.int g)) "shelf" (.inst "Shelf" s.sh)) λl1 el1=> ?_
  have a1:l1 "shelf" = some (.inst "Shelf" s.sh):=aA el1
  have a2:l1 "best" = some (wQ r.ss b):=lT el1 ∅ ∅ h4
  have a3:l1 "self" = some (.inst "Room" ri):=lT el1 ∅ ∅ h5
  have a4:l1 "size" = some (.int z):=lT el1 ∅ ∅ h6
  haveI hself:upd l "page" (.int g) "self" = some (.inst "Room" ri):=ah rfl ∅ h5
  obtain ⟨m1,c1⟩:=yv hRq hO hm l1
  rw [e2] at c1
  have n1:dr [] ⟨l1,H2⟩= .ok (.ref H2.length) ⟨l1,H3⟩:=by rw [uR,if_pos (by simp),e3]
  haveI g1:H3[Hq.length]? = some (.list ((gN 0 s.bs).map V.int)):=aG p3 (by rw [<- e2];simp)
  have q1:ko (.ref Hq.length) (.ref H2.length) ⟨l1,H3⟩= .ok (!(bA s.bs).isSome) ⟨l1,H3⟩:=by
   rw [n9 (q:=⟨l1,H3⟩) (ys:=[]) g1 (by rw [<- e3];simp),rd]
  haveI s1:((a9 "page" (.int g)).b λ_=>(((af "self").b λv13=>aC "racks" v13).b λv14=>(af "page").b λv15=>aR v14 v15).b λv16=>(a9 "shelf" v16).b λ_=>Cm.p Fl.next) ⟨l,Hq⟩= .ok .next ⟨l1,Hq⟩:=by
   exists hself,be hRq,cG hRq hs,el1
  have key:∀rr m,(m ⟨l1,Hq⟩=rr)->((a9 "page" (.int g)).b λ_=>aw ((((af "self").b λv13=>aC "racks" v13).b λv14=>(af "page").b λv15=>aR v14 v15).b λv16=>(a9 "shelf" v16).b λ_=>Cm.p Fl.next) m) ⟨l,Hq⟩=rr:=λrr m hh=>by
   rw [qv,Ak] at s1 ⊢
   exact ai s1 hh
  have hbst:Gc (look r.ss) b (g::ys)=Gc (look r.ss) (if I9 (look r.ss) b g then some g else b) ys:=rfl
  have hok:I9 (look r.ss) b g=((bA s.bs).isSome&&zg (look r.ss) (s.bs.count true) b):=by unfold I9;rw [hl]
  rw [hbst,hok] at h2
  have gv:∀(bb:Bool) (H':Hp),((bA s.bs).isSome&&zg (look r.ss) (s.bs.count true) b)=bb->Hq<+:H' ->
    JF H ri r z w B (ys.map V.int) (if bb then ⟨upd l1 "best" (.inst "Shelf" s.sh),H'⟩ else ⟨l1,H'⟩):=λbb H' hbb hp=>by
   rw [hbb] at h2
   cases bb with
   | true =>
    refine ⟨some g,ys,rfl,λg' hg'=>h1 g' (.tail _ hg'),h2,λg' e=>by cases e;exact ⟨s,hs⟩,?_,?_,?_,h7.trans hp⟩
    ·simp [upd,wQ,hs]
    ·simpa [upd] using a3
    ·simpa [upd] using a4
   | false=>exact ⟨b,ys,rfl,λg' hg'=>h1 g' (.tail _ hg'),h2,h3,a2,a3,a4,h7.trans hp⟩
  cases hf:(bA s.bs).isSome with
  | false =>
   rw [hf] at q1
   haveI:=gv false H3 (by rw [hf];rfl) (p2.trans p3)
   refine ⟨⟨l1,H3⟩,key _ _ ?_,p2.trans p3,this⟩
   exists a1,m1,c1,n1,q1
  | true =>
   rw [hf] at q1
   cases b with
   | none =>
    haveI:=gv true H3 (by rw [hf];rfl) (p2.trans p3)
    refine ⟨⟨upd l1 "best" (.inst "Shelf" s.sh),H3⟩,key _ _ ?_,p2.trans p3,this⟩
    simp only [wQ] at a2
    exists a1,m1,c1,n1,q1,a2
   | some g' =>
    obtain ⟨s',hs'⟩:=h3 g' rfl
    haveI hm':=(aW hs').1
    have hRq3:=hRq.pre (p2.trans p3)
    obtain ⟨m2,c2⟩:=uV hRq3 hO hm l1
    refine bz (H3++[O.list (List.replicate (s.bs.count true) (V.bool true))]) λH4 e4=> ?_
    rw [e4] at c2
    have p4:H3<+:H4:=⟨_,e4⟩
    obtain ⟨m3,c3⟩:=uV (hRq3.pre p4) hO hm' l1
    refine bz (H4++[O.list (List.replicate (s'.bs.count true) (V.bool true))]) λH5 e5=> ?_
    rw [e5] at c3
    have p5:Hq<+:H5:=((p2.trans p3).trans p4).trans ⟨_,e5⟩
    haveI hc':gh (look r.ss) g'=s'.bs.count true:=by unfold gh look;rw [hs'];rfl
    have a2':l1 "best" = some (.inst "Shelf" s'.sh):=by rw [a2];simp [wQ,hs']
    have hdec:decide (((s.bs.count true:Nat):Int)>((s'.bs.count true:Nat):Int))=decide (gh (look r.ss) g'<s.bs.count true):=by rw [hc'];exact decide_eq_decide.mpr ED
    cases hb:decide (gh (look r.ss) g'<s.bs.count true) with
    | true =>
     haveI:=gv true H5 (by rw [hf];simp only [zg,hb];rfl) p5
     refine ⟨⟨upd l1 "best" (.inst "Shelf" s.sh),H5⟩,key _ _ ?_,p5,this⟩
     exists a1,m1,c1,n1,q1,a2',m2,c2,m3,c3,hdec,hb
    | false =>
     haveI:=gv false H5 (by rw [hf];simp only [zg,hb];rfl) p5
     refine ⟨⟨l1,H5⟩,key _ _ ?_,p5,this⟩
     exists a1,m1,c1,n1,q1,a2',m2,c2,m3,c3,hdec,hb
end
noncomputable def Rm.own (ri:Nat) (r:Rm):List Nat:=ri::r.d::r.c::(r.ss.map (·.sh)++r.ss.map (·.t))
structure Rm.Sm (r r':Rm):Prop where
 pl:r'.pl=r.pl
 d:r'.d=r.d
 c:r'.c=r.c
 m:r'.m=r.m
 p:r'.p=r.p
 len:r'.len=r.len
 xs:r'.xs=r.xs
theorem Rm.Sm.rfl (r:Rm):r.Sm r:=⟨by rfl,by rfl,by rfl,by rfl,by rfl,by rfl,by rfl⟩
theorem Rm.Sm.ss (r:Rm) (ss:List bG):r.Sm { r with ss:=ss }:=⟨by rfl,by rfl,by rfl,by rfl,by rfl,by rfl,by rfl⟩
theorem Rm.Sm.cs (r:Rm) (cs:List Int):r.Sm { r with cs:=cs }:=⟨by rfl,by rfl,by rfl,by rfl,by rfl,by rfl,by rfl⟩
theorem Rm.Sm.trans {a b c:Rm} (h:a.Sm b) (k:b.Sm c):a.Sm c:=⟨k.pl.trans h.pl,k.d.trans h.d,k.c.trans h.c,k.m.trans h.m,k.p.trans h.p,k.len.trans h.len,k.xs.trans h.xs⟩
theorem u7 (ss:List bG) (g:Int) (bs:List Bool):(setBs ss g bs).map (·.sh)=ss.map (·.sh):=by
 unfold setBs;rw [List.map_map];refine List.map_congr_left λs _=> ?_
 show bG.sh (if s.pg=g then { s with bs:=bs } else s)=_
 split<;>rfl
theorem E8 (ri:Nat) (r:Rm):r.c∈r.own ri:=by simp [Rm.own]
theorem E9 (ri:Nat) (r:Rm):r.d∈r.own ri:=by simp [Rm.own]
theorem Fa (ri:Nat) {r:Rm} {s:bG} (h:s∈r.ss):s.t∈r.own ri:=by simp [Rm.own];exact .inr (.inr (.inr (.inr ⟨s,h,rfl⟩)))
theorem CC {n:Nat} (ri:Nat) (r:Rm) (x:bG) (h1:n<=x.sh) (h2:n<=x.t):∀i∈Rm.own ri { r with ss:=lJ r.ss x },i∈r.own ri\/n<=i:=λi hi=>by
 unfold Rm.own at hi ⊢
 simp at hi
 rcases hi with h | h | h | ⟨s,hs,rfl⟩ | ⟨s,hs,rfl⟩
 ·left;simp [h]
 ·left;simp [h]
 ·left;simp [h]
 ·rcases gP hs with rfl | ⟨hs,_⟩
  ·exact .inr h1
  ·left;simp;exact .inr (.inr (.inr (.inl ⟨s,hs,rfl⟩)))
 ·rcases gP hs with rfl | ⟨hs,_⟩
  ·exact .inr h2
  ·left;simp;exact .inr (.inr (.inr (.inr ⟨s,hs,rfl⟩)))
theorem dp.trans' {F F':List Nat} {H H' H'':Hp} (a:dp F H H') (b:dp F' H' H'') (h:∀i∈F',i∈F\/H.length<=i):dp F H H'' :=
 ⟨aam a.len b.len,λi hi hn=>(b.same i (aa4 hi a.len) λhm=>(h i hm).elim hn λh=>by exact cM 0x9096010110112 hi h).trans (a.same i hi hn)⟩
theorem Bz {H:Hp} {ri:Nat} {r:Rm} (h:aN H ri r):∀i∈r.own ri,i<H.length:=λi hi=>by
 have lt:∀ {j:Nat} {o:O},H[j]? = some o->j<H.length:=λh=>(aab.mp h).1
 unfold Rm.own at hi
 simp at hi
 rcases hi with rfl | rfl | rfl | ⟨s,hs,rfl⟩ | ⟨s,hs,rfl⟩
 ·exact lt h.ob
 ·exact lt h.racks
 ·exact lt h.cells
 ·exact lt (h.shelf s hs).ob
 ·exact lt (h.shelf s hs).ls
noncomputable def Af (p len:Int) (F:Vw) (z:Int):Option (Int×Vw):=match Gc F none (cP p F z) with
 | some g=>some (g,F)
 | none=>(EC p F).map λg=>(g,dq F g (some (z,List.replicate (len.fdiv z).toNat false)))
section
variable {H:Hp} {ri:Nat} {r:Rm} (hR:aN H ri r) (hO:r.Ok)
include hR hO
theorem yu {i v:Int} (h0:0<=i) (h1:i<r.cs.length) (l:bw):dn (.ref r.c) (.int i) (.int v) ⟨l,H⟩= .ok () ⟨l,H.set r.c (.list ((r.cs.set i.toNat v).map V.int))⟩:=by
 haveI h2:=hO.cs
 haveI h3:r.p*r.len<=40*60:=Int.mul_le_mul hO.p.2 hO.len.2 (by haveI:=hO.len;exact id (bQ 0x98019811 this.1)) ∅
 haveI h4:i<1000000:=by exact Dz 0xf4240a0900003ca28d18110fa10f0913 h1 h2 h3
 unfold dn;dsimp only;rw [hR.cells];dsimp only;rw [if_pos ⟨h0,h4,by rw [aai];exact h1⟩,List.map_set]
theorem CG {i:Int} (h0:0<=i) (h1:i<r.cs.length):∃v,r.cs[i.toNat]? = some v/\ ∀l,aR (.ref r.c) (.int i) ⟨l,H⟩= .ok (.int v) ⟨l,H⟩:=by
 haveI h2:=hO.cs
 haveI h3:r.p*r.len<=40*60:=Int.mul_le_mul hO.p.2 hO.len.2 (by haveI:=hO.len;exact id (bQ 0x98019811 this.1)) ∅
 haveI h4:i<1000000:=by exact Dz 0xf4240a0900003ca28d18110fa10f0913 h1 h2 h3
 have h5:i.toNat<r.cs.length:=by exact kx 0x1101fa10f0912 h1 (aaq h0)
 exact ⟨r.cs[i.toNat],aak h5,λl=>by unfold aR;dsimp only;rw [hR.cells];dsimp only;rw [if_pos ⟨h0,h4⟩,List.getElem?_map,aak h5];rfl⟩
omit hR in
theorem om {s:bG} (hs:s∈r.ss) {k:Int} (h0:0<=k) (h1:k<s.bs.length) {j:Int} (h2:0<=j) (h3:j<s.sz):A4 (0<=s.pg*r.len+k*s.sz+j) (s.pg*r.len+k*s.sz+j<r.cs.length) (k*s.sz+j<r.len) (0<=k*s.sz):=by
 have a1:=hO.pg s hs
 haveI a2:=hO.slots s hs
 have a3:=hO.szpos hs
 have a4:=hO.len
 have a5:=(er (a:=r.len) (b:=s.sz) (by exact bQ 0x98019811 a4.1) a3.1).2.2.1
 haveI b1:0<=s.pg*r.len:=Int.mul_nonneg a1.1 (by exact bQ 0x98019811 a4.1)
 have b2:0<=k*s.sz:=Int.mul_nonneg h0 (by exact bQ 0x98019811 a3.1)
 have b3:(k+1)*s.sz<=r.len.fdiv s.sz*s.sz:=Int.mul_le_mul_of_nonneg_right (by exact Dz 0x1190c810fa10f0912 h1 a2) (by exact bQ 0x98019811 a3.1)
 haveI b4:(s.pg+1)*r.len<=r.p*r.len:=Int.mul_le_mul_of_nonneg_right (by exact td 0x1190c810911 a1.2) (by exact bQ 0x98019811 a4.1)
 rw [Int.add_mul] at b3 b4
 haveI:=hO.cs
 refine ⟨by exact Hr 0x21cc0982098110981009813 h2 b1 b2,by exact hH [_] [_,_,_,_,_,_,_] 0xf045cc960fb16301d5c812101d4c81328110915 h3 a5 b3 b4 this,by exact hH [] [_,_,_,_,_] 0x304c92101d4c81328110913 h3 a5 b3,b2⟩
inductive Ks (H:Hp) (ri:Nat) (r:Rm) (pl z:Int) (rem:List V) (q:S):Prop
 | mk (cs ys:List Int) (f0:rem=ys.map V.int) (f1:(∀y∈ys,0<=y/\y<z)) (f2:cs.length=r.cs.length) (f3:aN q.H ri { r with cs:=cs }) (f4:dp [r.c] H q.H) (f5:q.l "self" = some (.inst "Room" ri)) (f6:q.l "place" = some (.int pl))
omit hR hO in
theorem uT (n:Int):∃ys:List Int,bN 0 n.toNat=ys.map V.int/\ ∀y∈ys,0<=y/\y<n:=by
 refine ⟨(List.range' 0 n.toNat).map Int.ofNat,rE _ 0,λy hy=> ?_⟩
 obtain ⟨k,hk,rfl⟩:=aag.mp hy
 haveI:=List.mem_range'.mp hk
 obtain ⟨i,h1,h2⟩:=this
 exact ⟨by simp,by rw [h2,aa2,Nat.one_mul];exact Int.lt_toNat.mp h1⟩
theorem DX {pl z:Int} (hz:0<=z/\z<=1000) (hin:∀j,0<=j->j<z->0<=pl+j/\pl+j<r.cs.length) {l:bw} (h1:l "self" = some (.inst "Room" ri)) (h2:l "place" = some (.int pl)) (h3:l "size" = some (.int z)) :
  ∃cs q',A5 (j8 ⟨l,H⟩= .ok .next q') (cs.length=r.cs.length) (aN q'.H ri { r with cs:=cs }) (dp [r.c] H q'.H) (q'.l "place" = some (.int pl)):=by
 refine oE λG kG=> ?_
 obtain ⟨ys,e,hy⟩:=uT z
 obtain ⟨q',hq,cs,_,_,_,i1,i2,i3,i4,i5⟩:=fU (g:=λ_=>True) (bd:=a9 "step") (body:=oJ) (Ks H ri r pl z) (λx rem q hI=>by
  obtain ⟨cs,ys,e,h1,h2,h3,h4,h5,h6⟩:=hI
  obtain ⟨l,Hq⟩:=q
  dsimp only at h3 h4 h5 h6
  cases ys with
  | nil=>simp at e
  | cons y ys =>
   obtain ⟨rfl,rfl⟩:x= .int y/\rem=ys.map V.int:=by simpa using e
   obtain ⟨y1,y2⟩:=h1 y (.head _)
   have hO':=Rm.Ok.setCs hR hO h2
   obtain ⟨k1,k2⟩:=hin y y1 y2
   haveI hc:=yu h3 hO' (i:=pl+y) (v:=0) k1 (by show _<((cs.length:Nat):Int);exact id (hH [_,_] [_,_] 0xf10c91f10c9110312 h2 k2)) (upd l "step" (.int y))
   haveI hc2:=kI h3 (upd l "step" (.int y))
   have a1:upd l "step" (.int y) "self" = some (.inst "Room" ri):=ah rfl ∅ h5
   have a2:upd l "step" (.int y) "place" = some (.int pl):=ah rfl ∅ h6
   refine ⟨⟨upd l "step" (.int y),Hq.set r.c (.list ((cs.set (pl+y).toNat 0).map V.int))⟩,?_,trivial,cs.set (pl+y).toNat 0,ys,rfl,λy' hy'=>h1 y' (.tail _ hy'),by rw [List.length_set];exact h2,aN.setCs h3 hO' _,h4.trans (dp.set (by simp)),a1,a2⟩
   exists a1,a2,hc2,hc) _ ⟨l,H⟩ ⟨r.cs,ys,e,hy,rfl,hR,dp.refl _ _,h1,h2⟩
 refine kG ⟨cs,q',?_,i1,i2,i3,i5⟩
 exists h3,kz z _ (Kl hz)
 exact hq
theorem CJ {s:bG} (hs:s∈r.ss) {k:Nat} (hk:bA s.bs=some k) (l:bw):A4 (∀l,dI "Shelf" "take" (.inst "Shelf" s.sh) ⟨l,H⟩= .ok () ⟨l,H⟩) (br (fT) [.inst "Shelf" s.sh] ⟨l,H⟩= .ok (.int k) ⟨l,H.set s.t (.list ((s.bs.set k true).map V.bool))⟩) (aN (H.set s.t (.list ((s.bs.set k true).map V.bool))) ri { r with ss:=setBs r.ss s.pg (s.bs.set k true) }) (Rm.Ok { r with ss:=setBs r.ss s.pg (s.bs.set k true) }):=by
 have hS:=hR.shelf s hs
 exact ⟨λl=>cZ hS.ob rfl,by rw [rC,IZ hS (hO.bslen hs),hk],aN.setBs hR hO hs _,Rm.Ok.setBs hR hO hs (by simp)⟩
theorem xG {g z:Int} {s:bG} (hf:d7 r.ss g=some s) (hz:s.sz=z) {k:Nat} (hk:bA s.bs=some k) {l:bw} (h1:l "self" = some (.inst "Room" ri)) (h2:l "best" = some (.inst "Shelf" s.sh)) (h3:l "size" = some (.int z)) :
  ∃r' q',A7 (aw (j7) (aw (j8) (pc)) ⟨l,H⟩= .ok (.ret (.int (g*r.len+k*z))) q') (aN q'.H ri r') r'.Ok (r.Sm r') (look r'.ss=dq (look r.ss) g (some (z,s.bs.set k true))) (dp (r.own ri) H q'.H) (r'.own ri=r.own ri):=by
 refine oE λG kG=> ?_
 obtain ⟨hs,rfl⟩:=aW hf
 subst hz
 obtain ⟨m1,c1,R1,O1⟩:=CJ hR hO hs hk l
 refine bz (H.set s.t (.list ((s.bs.set k true).map V.bool))) λH1 e1=> ?_
 haveI g1:dp (r.own ri) H H1:=by rw [<- e1];exact dp.set (Fa ri hs)
 rw [e1] at c1 R1
 have hk':=(jD hk).1
 haveI hb:=hO.bslen hs
 have hpg:=hO.pg s hs
 haveI hp:=hO.p
 haveI hs1:jt H1 s.sh s.t s.pg s.sz (s.bs.set k true):=R1.shelf { s with bs:=s.bs.set k true } (aag.mpr ⟨s,hs,by simp⟩)
 haveI vb:=tU R1 (s:={ s with bs:=s.bs.set k true }) hs1 k ⟨hpg.1,by show s.pg<1000;exact id (td 0x3e8a09000028a18110912 hpg.2 hp.2)⟩ ⟨by exact cU 0xf0980,by exact cM 0x3e8a0f90003e8a10110112 hk' hb⟩
 dsimp only at vb
 haveI s5:j7 ⟨l,H⟩= .ok .next ⟨upd l "place" (.int (s.pg*r.len+k*s.sz)),H1⟩:=by
  exists h1,h2,aH hR (f := "begin") ⟨by decide,by decide,by decide⟩,m1,c1,vb
 have hsz:=hO.szpos hs
 haveI hlen:=hO.len
 obtain ⟨cs,q',i0,i1,i2,i3,i4⟩:=DX R1 O1 (pl:=s.pg*r.len+k*s.sz) (z:=s.sz) ⟨by exact bQ 0x98019811 hsz.1,by exact td 0x3e8a0800003ca18110812 hsz.2 hlen.2⟩ (λj j1 j2=>by
   obtain ⟨u1,u2,_⟩:=om hO hs (k:=k) (by exact cU 0xf0980) (by exact cM 0x1f0f910111 hk') j1 j2
   exact ⟨u1,u2⟩) (l:=upd l "place" (.int (s.pg*r.len+k*s.sz))) (ah rfl ∅ h1) (by simp [upd]) (ah rfl ∅ h3)
 refine kG ⟨_,q',ai s5 (ai i0 ?_),i2,Rm.Ok.setCs R1 O1 i1,(Rm.Sm.ss r _).trans (Rm.Sm.cs _ cs),?_,g1.trans (i3.mono λi hi _=> ?_),?_⟩
 ·obtain ⟨l',H'⟩:=q'
  dsimp only at i4
  exists i4
 ·show look (setBs r.ss s.pg (s.bs.set k true))=_
  exact pK hf _
 ·rw [aaj.mp hi];exact E8 ri r
 ·show Rm.own ri { r with ss:=setBs r.ss s.pg (s.bs.set k true) }=_
  unfold Rm.own
  dsimp only
  rw [u7,oj]
omit hR hO in
theorem ud {n:Nat} (h:0<n):bA (List.replicate n false)=some 0:=by
 cases n with
 | zero=>exact id ((hH [] [] 0x90960909111 h).elim)
 | succ n=>rfl
theorem I1 {w:Int} (hw:1<=w):match r.xs.find? (λx=>decide (x>=w)) with
  | none=>cD [.inst "Room" ri,.int w] H= .exc "TooLarge" H
  | some z=>match Af r.p r.len (look r.ss) z with
   | none=> ∃H',cD [.inst "Room" ri,.int w] H= .exc "NoRoom" H'/\H<+:H'
   | some gF=> ∃bs k r' H',gF.2 gF.1=some (z,bs)/\bA bs=some k/\cD [.inst "Room" ri,.int w] H= .ok (.int (gF.1*r.len+(k:Nat)*z)) H'/\aN H' ri r'/\r'.Ok/\r.Sm r' /\
     look r'.ss=dq gF.2 gF.1 (some (z,bs.set k true))/\dp (r.own ri) H H'/\(∀i∈r'.own ri,i∈r.own ri\/H.length<=i):=by
 obtain ⟨l0,e0,a1,a2⟩:∃l0,aF ["self", "places"] [.inst "Room" ri,.int w]=l0/\l0 "self" = some (.inst "Room" ri)/\l0 "places" = some (.int w):=⟨_,rfl,rfl,rfl⟩
 have hsf:=pQ H r.pl r.p r.len r.xs w hR.isPlan
 rw [if_neg (by exact bQ 0x190d019811 hw)] at hsf
 have hmp:∀l,dI "Plan" "size_for" (.inst "Plan" r.pl) ⟨l,H⟩= .ok () ⟨l,H⟩:=λl=>cZ hR.plan (ID _ _ _)
 cases hz:r.xs.find? (λx=>decide (x>=w)) with
 | none =>
  rw [hz] at hsf
  refine ce (m:=fJ) (q:=⟨l0,H⟩) rfl ?_
  rw [e0]
  refine bY (bx ?_)
  exact bq (bq (g_get a1) (du hR _)) (bq (hmp _) (bq (bq (g_get a2) rfl) (cL hsf)))
 | some z =>
  rw [hz] at hsf
  have hzx:z∈r.xs:=aaE hz
  dsimp only
  refine oE λG kG=> ?_
  have s1:o5 ⟨l0,H⟩= .ok .next ⟨upd l0 "size" (.int z),H⟩:=by exists a1,a2,du hR,hmp,hsf
  have s2:o9 ⟨upd l0 "size" (.int z),H⟩= .ok .next ⟨upd (upd l0 "size" (.int z)) "best" .none,H⟩:=rfl
  refine bz (upd (upd l0 "size" (.int z)) "best" .none) λl2 el2=> ?_
  rw [el2] at s2
  have b1:l2 "self" = some (.inst "Room" ri):=lT el2 ∅ ∅ a1
  have b2:l2 "size" = some (.int z):=yU el2 ∅
  haveI b3:l2 "best" = some .none:=aA el2
  obtain ⟨n,H1,hof,p1,x1⟩:=xC hR hO z
  haveI hR1:=hR.pre p1
  rw [hO.ofSz] at x1
  obtain ⟨q3,hq3,⟨b,ys,ey,_,i2,i3,i4,i5,i6,i7⟩,i8⟩:=fU (g:=λH=>ay (.ref n) H=some ((cP r.p (look r.ss) z).map V.int)) (bd:=a9 "page") (body:=jR) (λrem q=>JF H1 ri r z w (Gc (look r.ss) none (cP r.p (look r.ss) z)) rem q/\H1<+:q.H) (λx rem q hI=>by
   obtain ⟨q',k1,k2,k3⟩:=Dc hR1 hO x rem q hI.1
   exact ⟨q',k1,cA (aG (hI.2.trans k2) x1),k3,hI.2.trans k2⟩) _ ⟨l2,H1⟩ ⟨⟨none,cP r.p (look r.ss) z,rfl,λg hg=>by
    obtain ⟨h1,_⟩:=aaF.mp hg
    have:=(iY.mp h1).2
    cases hf:look r.ss g with
    | none=>rw [hf] at this;cases this
    | some v=>obtain ⟨s,hs,_⟩:=bn hf;exact ⟨s,hs⟩,rfl,λg e=>(by cases e),b3,b1,b2,aac _⟩,aac _⟩
  cases ys with
  | cons _ _=>cases ey
  | nil =>
  change b=_ at i2
  obtain ⟨l3,H3⟩:=q3
  dsimp only at i4 i5 i6 i7 i8
  have s3:pb ⟨l2,H⟩= .ok .next ⟨l3,H3⟩:=by
   exists b1,b2,aH hR (f := "of_size") ⟨by decide,by decide,by decide⟩,hof,dt x1
   exact hq3
  have p3:H<+:H3:=p1.trans i7
  have hR3:=hR.pre p3
  unfold Af at kG
  rw [<- i2] at kG
  cases b with
  | some g =>
   obtain ⟨s,hs⟩:=i3 g rfl
   have i4':l3 "best" = some (.inst "Shelf" s.sh):=by rw [i4];simp [wQ,hs]
   haveI hb:=i2.symm
   rcases B1 hb with h | ⟨hgm,v,hv,hfv⟩
   ·cases h
   have hlk:look r.ss g=some (s.sz,s.bs):=by unfold look;rw [hs];rfl
   rw [hlk] at hv
   cases hv
   have hsz:s.sz=z:=by
    haveI:=(aaF.mp hgm).2
    unfold mI at this
    rw [hlk] at this
    simpa using this
   obtain ⟨k,hk⟩:=aaQ.mp hfv
   haveI s4:j6 ⟨l3,H3⟩= .ok .next ⟨l3,H3⟩:=by
    exists i4'
   obtain ⟨r',q',t1,t2,t3,t4,t5,t6,t7⟩:=xG hR3 hO hs hsz hk i5 i4' i6
   refine kG ⟨s.bs,k,r',q'.H,by show look r.ss g=_;rw [hlk,hsz],hk,aU (m:=fJ) rfl (by rw [e0];exact ai s1 (ai s2 (ai s3 (ai s4 t1)))),t2,t3,t4,t5,(dp.pre p3).trans t6,λi hi=> .inl (t7▸hi)⟩
  | none =>
   have i4':l3 "best" = some .none:=i4
   have hfr:=GU hR3 hO hzx
   rw [hO.fresh] at hfr
   cases hp:EC r.p (look r.ss) with
   | none =>
    rw [hp] at hfr kG
    obtain ⟨H4,h4,p4⟩:=hfr
    refine kG ⟨H4,ce (m:=fJ) (q:=⟨l3,H4⟩) rfl ?_,p3.trans p4⟩
    rw [e0]
    refine ai s1 (ai s2 (ai s3 (bY ?_)))
    exact bq (bq (g_get i4') (bq rfl rfl)) (it_t rfl (bx (bq (g_get i5) (bq (aH hR3 (f := "fresh") ⟨by decide,by decide,by decide⟩ _) (bq (bq (g_get i6) rfl) (cL h4))))))
   | some g =>
    rw [hp] at hfr kG
    obtain ⟨m,H4,h4,n1,n2,n3,n4,n5⟩:=hfr
    obtain ⟨q1,q2⟩:=rA hR hO hzx
    haveI O4:=Rm.Ok.put hR3 hO (s:=⟨g,m,m+2,z,List.replicate (r.len.fdiv z).toNat false⟩) n3 hzx (by simp;exact Int.max_eq_left (Int.le_trans ∅ q1)) (by show H3.length<=m+2;exact id (cM 0x291c0010011 n1))
    haveI s4:j6 ⟨l3,H3⟩= .ok .next ⟨upd l3 "best" (.inst "Shelf" m),H4⟩:=by
     exists i4',i5,i6,aH hR3 (f := "fresh") ⟨by decide,by decide,by decide⟩,h4
    obtain ⟨r',q',t1,t2,t3,t4,t5,t6,t7⟩:=xG n4 O4 (g:=g) (mW r.ss ⟨g,m,m+2,z,List.replicate (r.len.fdiv z).toNat false⟩) rfl (ud (by exact j5 0x910f081019812 q1 (Int.self_le_toNat _))) (l:=upd l3 "best" (.inst "Shelf" m)) (ah rfl ∅ i5) (by simp [upd]) (ah rfl ∅ i6)
    refine kG ⟨List.replicate (r.len.fdiv z).toNat false,0,r',q'.H,dh _ _ _,ud (by exact j5 0x910f081019812 q1 (Int.self_le_toNat _)),aU (m:=fJ) rfl (by rw [e0];exact ai s1 (ai s2 (ai s3 (ai s4 t1)))),t2,t3,(Rm.Sm.ss r _).trans t4,?_,?_,λi hi=> ?_⟩
    ·rw [t5];dsimp only;rw [EW]
    ·exact ((dp.pre p3).trans (n5.mono λi hi _=>by rw [aaj.mp hi];exact E9 ri r)).trans' t6 (CC ri r _ (aam p3.length_le n1) (aam p3.length_le (by show H3.length<=m+2;exact id (cM 0x291c0010011 n1))))
    ·rw [t7] at hi
     exact CC ri r _ (aam p3.length_le n1) (aam p3.length_le (by show H3.length<=m+2;exact id (cM 0x291c0010011 n1))) i hi
end
theorem JV {q b r:Int} (h0:0<=r) (h1:r<b):(q*b+r).fdiv b=q/\(q*b+r).fmod b=r:=by
 haveI hb:b≠0:=by exact λx9=>td 0x9096091a11091009813 h0 h1 x9
 rw [Int.fdiv_eq_ediv_of_nonneg _ (by exact td 0x10981091009812 h0 h1),Int.fmod_eq_emod_of_nonneg _ (by exact td 0x10981091009812 h0 h1),Int.add_comm,Int.add_mul_ediv_right _ _ hb,Int.ediv_eq_zero_of_lt h0 h1,Int.add_mul_emod_self_right,Int.emod_eq_of_lt h0 h1]
 simp
theorem JW {q b:Int} (h1:0<b):(q*b).fdiv b=q/\(q*b).fmod b=0:=by
 haveI:=JV (q:=q) (b:=b) (r:=0) ∅ h1
 simpa using this
theorem uj {bs:List Bool} {k:Nat} (h:bs[k]? = some true):jF bs k=true:=by
 haveI:=(aab.mp h).1
 unfold jF
 rw [if_pos ⟨by exact cU 0xf0980,by exact cM 0x1f0f910111 this⟩]
 simp [h]
noncomputable def fF (F:Vw) (l:List Int):Vw:=λx=>if x∈l then none else F x
noncomputable def Gi (p:Int) (F:Vw) (g z:Int) (bs:List Bool):Vw :=
 if bs.count true=0/\1<((mF p (dq F g (some (z,bs)))).filter (mI (dq F g (some (z,bs))) z)).length then dq (dq F g (some (z,bs))) g none else dq F g (some (z,bs))
theorem CB (ri:Nat) (r:Rm) (g:Int):∀i∈Rm.own ri { r with ss:=ii r.ss g },i∈r.own ri:=λi hi=>by
 unfold Rm.own at hi ⊢
 have sub:∀s∈ii r.ss g,s∈r.ss:=λs hs=>(aaF.mp hs).1
 simp at hi ⊢
 rcases hi with h | h | h | ⟨s,hs,rfl⟩ | ⟨s,hs,rfl⟩
 ·exact .inl h
 ·exact .inr (.inl h)
 ·exact .inr (.inr (.inl h))
 ·exact .inr (.inr (.inr (.inl ⟨s,sub s hs,rfl⟩)))
 ·exact .inr (.inr (.inr (.inr ⟨s,sub s hs,rfl⟩)))
section
variable {H:Hp} {ri:Nat} {r:Rm} (hR:aN H ri r) (hO:r.Ok)
include hR hO
theorem yX {g z:Int} {s:bG} (hf:d7 r.ss g=some s) (hz:s.sz=z) {k:Nat} (hk:s.bs[k]? = some true):di [.inst "Room" ri,.int (g*r.len+k*z)] H= .ok (.tup [.inst "Shelf" s.sh,.int k]) H:=by
 obtain ⟨hs,e⟩:=aW hf
 subst hz e
 haveI hl:=(aab.mp hk).1
 have hsz:=hO.szpos hs
 haveI hlen:=hO.len
 obtain ⟨u1,u2,u3,u4⟩:=om hO hs (k:=k) (by exact cU 0xf0980) (by exact cM 0x1f0f910111 hl) (j:=0) ∅ (by exact bQ 0x99019811 hsz.1)
 obtain ⟨d1,d2⟩:=JV (q:=s.pg) (b:=r.len) (r:=k*s.sz) (by exact u4) (by exact td 0x1091090c911 u3)
 obtain ⟨d3,d4⟩:=JW (q:=k) (b:=s.sz) (by exact bQ 0x99019811 hsz.1)
 have hS:=hR.shelf s hs
 have n1:r.len≠0:=by exact λx9=>bQ 0x9096090a1019812 hlen.1 x9
 have n2:s.sz≠0:=by exact λx9=>bQ 0x9096090a1019812 hsz.1 x9
 haveI hh:=FO hS (hO.bslen hs) k
 rw [uj hk] at hh
 obtain ⟨l0,e0,a1,a2⟩:∃l0,aF ["self", "place"] [.inst "Room" ri,.int (s.pg*r.len+k*s.sz)]=l0/\l0 "self" = some (.inst "Room" ri)/\l0 "place" = some (.int (s.pg*r.len+k*s.sz)):=⟨_,rfl,rfl,rfl⟩
 haveI hsh:∀l,dI "Shelf" "has" (.inst "Shelf" s.sh) ⟨l,H⟩= .ok () ⟨l,H⟩:=λl=>cZ hS.ob (BE _ _ _)
 refine aU (m:=iA) (q:=⟨upd (upd (upd l0 "page" (.int s.pg)) "shelf" (.inst "Shelf" s.sh)) "step" (.int (k*s.sz)),H⟩) rfl ?_
 rw [e0]
 have rs:=λl=>(nv hR hs l).1
 refine ai (q':=⟨upd l0 "page" (.int s.pg),H⟩) (by exists a1,a2,du hR,uU hR,gk n1 d1) ?_
 have b1:upd l0 "page" (.int s.pg) "self" = some (.inst "Room" ri):=ah rfl ∅ a1
 haveI hin:=λl=>CH hR s.pg l
 rw [hf] at hin
 refine ai (q':=⟨upd l0 "page" (.int s.pg),H⟩) (by exists b1,be hR,hin) ?_
 refine ai (q':=⟨upd (upd l0 "page" (.int s.pg)) "shelf" (.inst "Shelf" s.sh),H⟩) (by exists b1,be hR,cG hR hf) ?_
 haveI c1:upd (upd l0 "page" (.int s.pg)) "shelf" (.inst "Shelf" s.sh) "self" = some (.inst "Room" ri):=ah rfl ∅ a1
 haveI c2:upd (upd l0 "page" (.int s.pg)) "shelf" (.inst "Shelf" s.sh) "place" = some (.int (s.pg*r.len+k*s.sz)):=ah rfl ∅ a2
 refine ai (q':=⟨upd (upd (upd l0 "page" (.int s.pg)) "shelf" (.inst "Shelf" s.sh)) "step" (.int (k*s.sz)),H⟩) (by exists c1,c2,du hR,uU hR,cW n1 d2) ?_
 obtain ⟨l3,el3⟩:∃l3,upd (upd (upd l0 "page" (.int s.pg)) "shelf" (.inst "Shelf" s.sh)) "step" (.int (k*s.sz))=l3:=⟨_,rfl⟩
 rw [el3]
 have g1:l3 "shelf" = some (.inst "Shelf" s.sh):=yU el3 ∅
 have g2:l3 "step" = some (.int (k*s.sz)):=aA el3
 refine ai (q':=⟨l3,H⟩) ?_ ?_
 ·exists g1,g2,rs,cW n2 d4,nq 0 0,hsh,gk n2 d3,hh
 ·exists g1,g2,rs,gk n2 d3
theorem CX {g z:Int} {s:bG} (hf:d7 r.ss g=some s) (hz:s.sz=z) {k:Nat} (hk:s.bs[k]? = some true) {j:Int} (h0:0<=j) (h1:j<z):dG [.inst "Room" ri,.int (g*r.len+k*z),.int j] H= .ok (.int (g*r.len+k*z+j)) H:=by
 haveI hv:=yX hR hO hf hz hk
 haveI rs:=λl=>(nv hR (aW hf).1 l).1
 rw [hz] at rs
 obtain ⟨l0,e0,a1,a2,a3⟩:∃l0,aF ["self", "place", "step"] [.inst "Room" ri,.int (g*r.len+k*z),.int j]=l0/\l0 "self" = some (.inst "Room" ri)/\l0 "place" = some (.int (g*r.len+k*z))/\l0 "step" = some (.int j):=⟨_,rfl,rfl,rfl,rfl⟩
 refine bz (upd l0 "shelf" (.inst "Shelf" s.sh)) λl1 el1=> ?_
 haveI b1:l1 "shelf" = some (.inst "Shelf" s.sh):=aA el1
 haveI b2:l1 "place" = some (.int (g*r.len+k*z)):=ah el1 ∅ a2
 have b3:l1 "step" = some (.int j):=ah el1 ∅ a3
 refine aU (m:=jG) (q:=⟨l1,H⟩) rfl ?_
 rw [e0]
 haveI it:∀q,aR (.tup [.inst "Shelf" s.sh,.int k]) (.int 0) q= .ok (.inst "Shelf" s.sh) q:=λq=>rfl
 refine ai (q':=⟨l1,H⟩) (by exists a1,a2,aH hR (f := "found") ⟨by decide,by decide,by decide⟩,hv,it,el1) ?_
 refine ai (q':=⟨l1,H⟩) ?_ (by exists b2,b3)
 haveI d0:decide ((0:Int)<=j)=true:=decide_eq_true h0
 haveI d1:decide (j<z)=true:=decide_eq_true h1
 exists b3,d0,b1,rs,d1
theorem FP {g z:Int} {s:bG} (hf:d7 r.ss g=some s) (hz:s.sz=z) {k:Nat} (hk:s.bs[k]? = some true) {j:Int} (h0:0<=j) (h1:j<z) :
  ∃v,dH [.inst "Room" ri,.int (g*r.len+k*z),.int j] H= .ok (.int v) H/\r.cs[(g*r.len+k*z+j).toNat]? = some v:=by
 haveI hc:=CX hR hO hf hz hk h0 h1
 obtain ⟨hs,e⟩:=aW hf
 haveI hl:=(aab.mp hk).1
 obtain ⟨u1,u2,_⟩:=om hO hs (k:=k) (by exact cU 0xf0980) (by exact cM 0x1f0f910111 hl) h0 (by rw [hz];exact h1)
 rw [e,hz] at u1 u2
 obtain ⟨v,v1,v2⟩:=CG hR hO u1 u2
 refine ⟨v,?_,v1⟩
 obtain ⟨l0,e0,a1,a2,a3⟩:∃l0,aF ["self", "place", "step"] [.inst "Room" ri,.int (g*r.len+k*z),.int j]=l0/\l0 "self" = some (.inst "Room" ri)/\l0 "place" = some (.int (g*r.len+k*z))/\l0 "step" = some (.int j):=⟨_,rfl,rfl,rfl,rfl⟩
 refine aU (m:=mX) (q:=⟨l0,H⟩) rfl ?_
 rw [e0]
 exists a1,a2,a3,kI hR,aH hR (f := "cell") ⟨by decide,by decide,by decide⟩,hc,v2
theorem CY {g z:Int} {s:bG} (hf:d7 r.ss g=some s) (hz:s.sz=z) {k:Nat} (hk:s.bs[k]? = some true) {j:Int} (h0:0<=j) (h1:j<z) (x:Int) :
  ∃H',A5 (dj [.inst "Room" ri,.int (g*r.len+k*z),.int j,.int x] H= .ok .none H') (aN H' ri { r with cs:=r.cs.set (g*r.len+k*z+j).toNat x }) (Rm.Ok { r with cs:=r.cs.set (g*r.len+k*z+j).toNat x }) (dp (r.own ri) H H') ((r.cs.set (g*r.len+k*z+j).toNat x)[(g*r.len+k*z+j).toNat]? = some x):=by
 haveI hc:=CX hR hO hf hz hk h0 h1
 obtain ⟨hs,e⟩:=aW hf
 haveI hl:=(aab.mp hk).1
 obtain ⟨u1,u2,_⟩:=om hO hs (k:=k) (by exact cU 0xf0980) (by exact cM 0x1f0f910111 hl) h0 (by rw [hz];exact h1)
 rw [e,hz] at u1 u2
 haveI hst:=yu hR hO (v:=x) u1 u2
 refine ⟨H.set r.c (.list ((r.cs.set (g*r.len+k*z+j).toNat x).map V.int)),?_,aN.setCs hR hO _,Rm.Ok.setCs hR hO (by simp),dp.set (E8 ri r),aaB (by exact hH [_,_] [_,_,_] 0x11210cc1fa10f210cc912 u2 (aaq u1))⟩
 obtain ⟨l0,e0,a1,a2,a3,a4⟩:∃l0,aF ["self", "place", "step", "number"] [.inst "Room" ri,.int (g*r.len+k*z),.int j,.int x]=l0/\l0 "self" = some (.inst "Room" ri)/\l0 "place" = some (.int (g*r.len+k*z))/\l0 "step" = some (.int j)/\l0 "number" = some (.int x):=⟨_,rfl,rfl,rfl,rfl,rfl⟩
 refine n7 (m:=lF) (q:=⟨l0,_⟩) rfl ?_
 rw [e0]
 exists a1,a2,a3,a4,kI hR,aH hR (f := "cell") ⟨by decide,by decide,by decide⟩,hc,hst
theorem Fx {g:Int} {s:bG} (hf:d7 r.ss g=some s) (l:bw):gm (.ref r.d) ⟨l,H⟩= .ok false ⟨l,H⟩/\rY (.ref r.d) (.int g) ⟨l,H⟩= .ok (.inst "Shelf" s.sh) ⟨l,H.set r.d (.dict (xT g (r.ss.map bG.ent)))⟩:=by
 haveI:=hO.few
 haveI h1:(r.ss.map bG.ent).length<=1000000:=by simp;exact id (cU 0xf4240a00000028a0011 this)
 exact ⟨by rw [yt,hR.racks],by unfold rY;dsimp only;rw [hR.racks];dsimp only;rw [if_pos h1,iR,hf];rfl⟩
theorem sT {g z:Int} {s:bG} (hf:d7 r.ss g=some s) (hz:s.sz=z) {k:Nat} (hk:s.bs[k]? = some true):∃r' H',A7 (cc [.inst "Room" ri,.int (g*r.len+k*z)] H= .ok .none H') (aN H' ri r') r'.Ok (r.Sm r') (look r'.ss=Gi r.p (look r.ss) g z (s.bs.set k false)) (dp (r.own ri) H H') (∀i∈r'.own ri,i∈r.own ri):=by
 refine oE λG kG=> ?_
 haveI hv:=yX hR hO hf hz hk
 obtain ⟨hs,e⟩:=aW hf
 subst hz e
 obtain ⟨l0,e0,a1,a2⟩:∃l0,aF ["self", "place"] [.inst "Room" ri,.int (s.pg*r.len+k*s.sz)]=l0/\l0 "self" = some (.inst "Room" ri)/\l0 "place" = some (.int (s.pg*r.len+k*s.sz)):=⟨_,rfl,rfl,rfl⟩
 have hS:=hR.shelf s hs
 haveI hg:=IU hS (hO.bslen hs) k
 rw [if_pos (uj hk)] at hg
 have R1:=aN.setBs hR hO hs (s.bs.set k false)
 have O1:=Rm.Ok.setBs hR hO hs (bs:=s.bs.set k false) (by simp)
 have L1:=pK hf (s.bs.set k false)
 refine bz ({ r with ss:=setBs r.ss s.pg (s.bs.set k false) }) λr1 er1=> ?_
 have ess:r1.ss=setBs r.ss s.pg (s.bs.set k false):=by rw [<- er1]
 haveI hown:r1.own ri=r.own ri:=by rw [<- er1];unfold Rm.own;dsimp only;rw [u7,oj]
 have hsm:r.Sm r1:=by rw [<- er1];exact Rm.Sm.ss r _
 rw [er1] at R1 O1
 rw [<- ess] at L1
 refine bz (H.set s.t (.list ((s.bs.set k false).map V.bool))) λH1 e1=> ?_
 haveI C1:dp (r.own ri) H H1:=by rw [<- e1];exact dp.set (Fa ri hs)
 rw [show (H.set s.t (.list ((s.bs.set ((k:Nat):Int).toNat false).map V.bool)))=H1 by rw [Int.toNat_natCast];exact e1] at hg
 rw [e1] at R1
 obtain ⟨s1,hs1,z1,b1⟩:∃s1,d7 r1.ss s.pg=some s1/\s1.sz=s.sz/\s1.bs=s.bs.set k false:=by
  obtain ⟨s1,h1,h2,h3⟩:=bn (ss:=r1.ss) (g:=s.pg) (v:=(s.sz,s.bs.set k false)) (by rw [L1,dh])
  exact ⟨s1,h1,h2,h3⟩
 have sh1:s1.sh=s.sh:=by
  haveI:=pE (λa=>if a.pg=s.pg then { a with bs:=s.bs.set k false } else a) (λa=>by split<;>rfl) r.ss s.pg
  rw [ess] at hs1
  unfold setBs at hs1
  rw [this,hf] at hs1
  simp at hs1
  rw [<- hs1]
 obtain ⟨hm1,hp1⟩:=aW hs1
 obtain ⟨n,H2,he,p2,x2⟩:=tV R1 O1
 rw [O1.empt,L1] at x2
 have hps:r1.p=r.p:=hsm.p
 refine bz (dq (look r.ss) s.pg (some (s.sz,s.bs.set k false))) λF1 eF1=> ?_
 rw [hps,eF1] at x2
 rw [eF1] at L1
 haveI it0:∀q,aR (.tup [.inst "Shelf" s.sh,.int k]) (.int 0) q= .ok (.inst "Shelf" s.sh) q:=λq=>rfl
 haveI it1:∀q,aR (.tup [.inst "Shelf" s.sh,.int k]) (.int 1) q= .ok (.int k) q:=λq=>rfl
 refine bz (upd (upd l0 "both" (.tup [.inst "Shelf" s.sh,.int k])) "shelf" (.inst "Shelf" s.sh)) λl2 el2=> ?_
 have c1:l2 "self" = some (.inst "Room" ri):=lT el2 ∅ ∅ a1
 haveI c2:l2 "both" = some (.tup [.inst "Shelf" s.sh,.int k]):=yU el2 ∅
 have c3:l2 "shelf" = some (.inst "Shelf" s.sh):=aA el2
 haveI t1:jl ⟨l0,H⟩= .ok .next ⟨upd l0 "both" (.tup [.inst "Shelf" s.sh,.int k]),H⟩:=by
  exists a1,a2,aH hR (f := "found") ⟨by decide,by decide,by decide⟩,hv
 haveI t2:jm ⟨upd l0 "both" (.tup [.inst "Shelf" s.sh,.int k]),H⟩= .ok .next ⟨l2,H⟩:=by
  exists it0,el2
 haveI mg:∀l,dI "Shelf" "give" (.inst "Shelf" s.sh) ⟨l,H⟩= .ok () ⟨l,H⟩:=λl=>cZ hS.ob rfl
 haveI t3:jn ⟨l2,H⟩= .ok .next ⟨l2,H1⟩:=by
  exists c2,c3,mg,it1,hg
 haveI hc:∃H',fC ⟨l2,H1⟩= .ok (.ref H'.length) ⟨l2,H'++[.list ((mF r.p F1).filterMap λg=>if mI F1 s.sz g then some (V.int g) else none)]⟩/\H2<+:H':=by
  unfold fC
  refine dY (n:=n) (ks:=mF r.p F1) ?_ x2 ?_ (λg=>if mI F1 s.sz g then some (V.int g) else none) λg hg Hx hp=> ?_
  ·exists c1,aH R1 (f := "empty_pages") ⟨by decide,by decide,by decide⟩,he
   exact dt x2
  ·haveI h1:(mF r.p F1).length<=(gI r.p).length:=aam (aa1 _ _) (aa1 _ _)
   have h2:=hO.p
   unfold gI at h1;simp at h1;exact id (kx 0xf4240a0001fa11001000028a0813 h2.2 h1 (aaq (bQ 0x98019811 h2.1)))
  ·haveI hgk:=(iY.mp (aaF.mp hg).1).2
   obtain ⟨v,hv⟩:=aaQ.mp hgk
   obtain ⟨s',hs',z',_⟩:=bn (ss:=r1.ss) (v:=v) (by rw [L1];exact hv)
   have hRx:=R1.pre (p2.trans hp)
   have rs1:=λl=>(nv hRx (aW hs').1 l).1
   have rs2:=λl=>(nv hRx hm1 l).1
   rw [sh1,z1] at rs2
   have b1:upd (fx ["shelf", "self"] l2) "page" (.int g) "self" = some (.inst "Room" ri):=gc ∅ ∅ c1
   have b2:upd (fx ["shelf", "self"] l2) "page" (.int g) "shelf" = some (.inst "Shelf" s.sh):=gc ∅ ∅ c3
   refine ⟨Hx,?_,aac _⟩
   haveI hz':mI F1 s.sz g=decide (s'.sz=s.sz):=by unfold mI;rw [hv,z']
   rw [hz']
   cases hb:decide (s'.sz=s.sz) with
   | true=>exact eE (H2:=Hx) (by exists b1,b2,be hRx,cG hRx hs',rs1,rs2,hb) (g_get (lf _ _ _))
   | false=>exact qE (by exists b1,b2,be hRx,cG hRx hs',rs1,rs2,hb)
 obtain ⟨H3,hc,p3⟩:=hc
 rw [eS] at hc
 refine bz ((mF r.p F1).filter (mI F1 s.sz)) λot eot=> ?_
 rw [eot] at hc
 haveI t4:jo ⟨l2,H1⟩= .ok .next ⟨upd l2 "others" (.ref H3.length),H3++[.list (ot.map V.int)]⟩:=by exists hc
 refine bz (upd l2 "others" (.ref H3.length)) λl4 el4=> ?_
 haveI d1:l4 "self" = some (.inst "Room" ri):=ah el4 ∅ c1
 have d2:l4 "shelf" = some (.inst "Shelf" s.sh):=ah el4 ∅ c3
 have d3:l4 "others" = some (.ref H3.length):=aA el4
 refine bz (H3++[O.list (ot.map V.int)]) λH4 e4=> ?_
 rw [el4,e4] at t4
 have p4:H1<+:H4:=(p2.trans p3).trans ⟨_,e4⟩
 have R4:=R1.pre p4
 obtain ⟨mo,co⟩:=uV R4 O1 hm1 l4
 rw [sh1,b1] at co
 rw [sh1] at mo
 refine bz (H4++[O.list (List.replicate ((s.bs.set k false).count true) (V.bool true))]) λH5 e5=> ?_
 rw [e5] at co
 have p5:H4<+:H5:=⟨_,e5⟩
 have R5:=R4.pre p5
 haveI hlo:ot.length<=40:=by
  haveI h1:ot.length<=(gI r.p).length:=by rw [<- eot];exact aam (aa1 _ _) (aam (aa1 _ _) (aa1 _ _))
  have h2:=hO.p
  unfold gI at h1;simp at h1;exact id (kx 0x28a0001fa11001000028a0813 h2.2 h1 (aaq (bQ 0x98019811 h2.1)))
 have hln:eW [.ref H3.length] ⟨l4,H5⟩= .ok (.int ot.length) ⟨l4,H5⟩:=by
  haveI:H5[H3.length]? = some (.list (ot.map V.int)):=aG p5 (by rw [<- e4];simp)
  rw [cH this (by simp;exact id (cU 0xf4240a01000028a0011 hlo))];simp
 haveI rp:=λl=>(nv R5 hm1 l).2
 rw [sh1,hp1] at rp
 obtain ⟨k1,k2⟩:=Fx R5 O1 hs1 l4
 have hw:Rm.own ri r1=Rm.own ri r:=hown
 have Cf:dp (r.own ri) H H5:=C1.trans (dp.pre (p4.trans p5))
 have dc:decide ((((s.bs.set k false).count true:Nat):Int)=0)=decide ((s.bs.set k false).count true=0):=decide_eq_decide.mpr E5
 have dl:decide (((ot.length:Nat):Int)>1)=decide (1<ot.length):=decide_eq_decide.mpr (ED (b:=1))
 have main:∀q,jp ⟨l4,H4⟩= .ok .next q->cc [.inst "Room" ri,.int (s.pg*r.len+k*s.sz)] H= .ok .none q.H:=λq hq =>
  n7 (m:=gw) (q:=q) rfl (by rw [e0];exact ai t1 (ai t2 (ai t3 (ai t4 hq))))
 unfold Gi at kG
 rw [eF1,eot] at kG
 by_cases h1:(s.bs.set k false).count true=0
 ·by_cases h2:1<ot.length
  ·rw [if_pos ⟨h1,h2⟩] at kG
   refine kG ⟨{ r1 with ss:=ii r1.ss s.pg },_,main ⟨l4,_⟩ ?_,aN.del R5 O1 s.pg,Rm.Ok.del R5 O1 s.pg,hsm.trans (Rm.Sm.ss r1 _),?_,Cf.trans (dp.set (by rw [<- hw];exact E9 ri r1)),λi hi=>hw▸CB ri r1 s.pg i hi⟩
   ·exists d1,d2,d3,mo,co,dc,decide_eq_true h1,hln,dl,decide_eq_true h2,be R5,k1,rp,k2
   ·show look (ii r1.ss s.pg)=_
    rw [uA,L1]
  ·rw [if_neg λh=>h2 h.2] at kG
   refine kG ⟨r1,H5,main ⟨l4,H5⟩ ?_,R5,O1,hsm,L1,Cf,λi hi=>hw▸hi⟩
   exists d1,d2,d3,mo,co,dc,decide_eq_true h1,hln,dl,decide_eq_false h2
 ·rw [if_neg λh=>h1 h.1] at kG
  refine kG ⟨r1,H5,main ⟨l4,H5⟩ ?_,R5,O1,hsm,L1,Cf,λi hi=>hw▸hi⟩
  exists d1,d2,d3,mo,co,dc,decide_eq_false h1
end
theorem kr (p:Int) (hp:p<=40) (F:Vw):(cX p F).length<=40:=by
 haveI h1:(cX p F).length<=(gI p).length:=aa1 _ _
 unfold gI at h1;simp at h1;exact aam h1 (Int.toNat_le.mpr hp)
theorem vh (p:Int) (hp:p<=40) (F:Vw) (z:Int):(cP p F z).length<=40:=aam (aa1 _ _) (kr p hp F)
theorem zw (p:Int) (hp:p<=40) (F:Vw):(mF p F).length<=40:=aam (aa1 _ _) (kr p hp F)
theorem zf (p:Int) (hp:p<=40) (F:Vw):(pZ p F).length<=40:=by
 haveI h1:(pZ p F).length<=(gI p).length:=aa1 _ _
 unfold gI at h1;simp at h1;exact aam h1 (Int.toNat_le.mpr hp)
theorem uw (p:Int) (F:Vw):(cX p F).Nodup:=uC ((ik p).filter _)
theorem iX {p:Int} {F:Vw} {g:Int} (h:g∈cX p F):∃v,F g=some v:=aaQ.mp (iY.mp h).2
theorem uW (F:Vw):fF F []=F:=by funext x;simp [fF]
theorem DE (F:Vw) (g:Int) (l:List Int):fF (dq F g none) l=fF F (g::l):=by
 funext x
 unfold fF
 by_cases h1:x∈l
 ·simp [h1]
 ·by_cases h2:x=g<;>simp [h1,h2,dq]
def HP (H:Hp) (ri:Nat) (r:Rm) (Fz:Vw) (ks:List Int) (q:S):Prop:= ∃r',aN q.H ri r'/\r'.Ok/\r.Sm r'/\fF (look r'.ss) ks=Fz/\ks.Nodup/\(∀g∈ks,∃v,look r'.ss g=some v)/\dp (r.own ri) H q.H/\(∀i∈r'.own ri,i∈r.own ri)/\r'.cs=r.cs
theorem HP.pop {H:Hp} {ri:Nat} {r:Rm} {Fz:Vw} {g:Int} {ks:List Int} {l:bw} {Hq:Hp} (h:HP H ri r Fz (g::ks) ⟨l,Hq⟩):∃v H',A5 (gm (.ref r.d) ⟨l,Hq⟩= .ok false ⟨l,Hq⟩) (rY (.ref r.d) (.int g) ⟨l,Hq⟩= .ok v ⟨l,H'⟩) (∀l',HP H ri r Fz ks ⟨l',H'⟩) (aC "racks" (.inst "Room" ri) ⟨l,Hq⟩= .ok (.ref r.d) ⟨l,Hq⟩) (dp [r.d] Hq H'):=by
 obtain ⟨r',h1,h2,h3,h4,h5,h6,h7,h8,h9⟩:=h
 dsimp only at h1 h7
 obtain ⟨v,hv⟩:=h6 g (.head _)
 obtain ⟨s,hs,_⟩:=bn hv
 obtain ⟨k1,k2⟩:=Fx h1 h2 hs l
 rw [h3.d] at k1 k2
 rw [List.nodup_cons] at h5
 refine ⟨_,_,k1,k2,λl'=> ?_,by rw [be h1,h3.d],dp.set (by simp)⟩
 rw [<- h3.d]
 refine ⟨{ r' with ss:=ii r'.ss g },aN.del h1 h2 g,Rm.Ok.del h1 h2 g,h3.trans (Rm.Sm.ss r' _),?_,h5.2,λx hx=> ?_,h7.trans (dp.set (by rw [h3.d];exact E9 ri r)),λi hi=>h8 i (CB ri r' g i hi),h9⟩
 ·rw [uA,DE];exact h4
 ·obtain ⟨w,hw⟩:=h6 x (.tail _ hx)
  refine ⟨w,?_⟩
  haveI hne:x≠g:=λe=>h5.1 (e▸hx)
  rw [uA,iE _ _ hne]
  exact hw
noncomputable def rH (F:Vw) (g:Int):Option V:=match F g with | some v=>some (.tup [.int g,.int v.1,.int (v.2.count true)]) | none=>none
noncomputable def dP (len:Int) (F:Vw) (g:Int):List (Int×Int):=match F g with | some v=>(cu 0 v.2).map λk=>(g*len+k*v.1,v.1) | none=>[]
noncomputable def b7 (p len:Int) (F:Vw):List (Int×Int):=(cX p F).flatMap (dP len F)
noncomputable def F8 (F:Vw) (g:Int):Int:=match F g with | some v=>((gN 0 v.2).length:Nat) | none=>0
theorem iK:∀(bs:List Bool) (a:Nat) (k:Int),k∈cu a bs-> ∃j:Nat,k=((a+j:Nat):Int)/\bs[j]? = some true
 | [],_,_,h=>by cases h
 | true::r,a,k,h=>by
  rcases aal.mp (show k∈(a:Int)::cu (a+1) r from h) with rfl | h
  ·exact ⟨0,by simp,rfl⟩
  ·obtain ⟨j,h1,h2⟩:=iK r (a+1) k h
   exact ⟨j+1,by rw [h1];congr 1;exact id (aaf (cM 0x191c0c1190cc00) (cM 0x1190cc191c0c00)),by simpa using h2⟩
 | false::r,a,k,h=>by
  obtain ⟨j,h1,h2⟩:=iK r (a+1) k h
  exact ⟨j+1,by rw [h1];congr 1;exact id (aaf (cM 0x191c0c1190cc00) (cM 0x1190cc191c0c00)),by simpa using h2⟩
theorem iJ:∀(bs:List Bool) (a:Int),(cu a bs).length=bs.count true
 | [],_=>rfl
 | true::r,a=>by rw [List.count_cons_self,<- iJ r (a+1)];rfl
 | false::r,a=>by rw [aa5 ∅,<- iJ r (a+1)];rfl
section
variable {H:Hp} {ri:Nat} {r:Rm} (hR:aN H ri r) (hO:r.Ok)
include hR hO
theorem I0:∃r' H',A7 (mU [.inst "Room" ri] H= .ok (.int (mF r.p (look r.ss)).length) H') (aN H' ri r') r'.Ok (r.Sm r') (look r'.ss=fF (look r.ss) (mF r.p (look r.ss))) (dp (r.own ri) H H') (∀i∈r'.own ri,i∈r.own ri):=by
 obtain ⟨l0,e0,a1⟩:∃l0,aF ["self"] [.inst "Room" ri]=l0/\l0 "self" = some (.inst "Room" ri):=⟨_,rfl,rfl⟩
 obtain ⟨n,H1,he,p1,x1⟩:=tV hR hO
 rw [hO.empt] at x1
 have R1:=hR.pre p1
 obtain ⟨em,eem⟩:∃em,mF r.p (look r.ss)=em:=⟨_,rfl⟩
 rw [eem] at x1
 haveI t1:o4 ⟨l0,H⟩= .ok .next ⟨upd l0 "pages" (.ref n),H1⟩:=by
  exists a1,aH hR (f := "empty_pages") ⟨by decide,by decide,by decide⟩,he
 obtain ⟨l1,el1⟩:∃l1,upd l0 "pages" (.ref n)=l1:=⟨_,rfl⟩
 rw [el1] at t1
 haveI b1:l1 "self" = some (.inst "Room" ri):=ah el1 ∅ a1
 have b2:l1 "pages" = some (.ref n):=aA el1
 haveI hnd:n≠r.d:=λe=>by rw [e,R1.racks] at x1;cases x1
 obtain ⟨q',hq,i1,ks,ek,i2,i3,i4⟩:=fU (g:=λH=>ay (.ref n) H=some (em.map V.int)) (bd:=a9 "page") (body:=oI)
  (λrem q=>q.l "self" = some (.inst "Room" ri)/\ ∃ks:List Int,rem=ks.map V.int/\HP H1 ri r (fF (look r.ss) em) ks q/\q.l "pages" = some (.ref n)/\q.H[n]? = some (.list (em.map V.int))) (λx rem q hI=>by
   obtain ⟨h1,ks,e,h2,h3,h4⟩:=hI
   obtain ⟨l,Hq⟩:=q
   dsimp only at h1 h3 h4
   cases ks with
   | nil=>simp at e
   | cons g ks =>
    obtain ⟨rfl,rfl⟩:x= .int g/\rem=ks.map V.int:=by simpa using e
    haveI h2':HP H1 ri r (fF (look r.ss) em) (g::ks) ⟨upd l "page" (.int g),Hq⟩:=h2
    obtain ⟨v,H',k1,k2,k3,k4,k5⟩:=h2'.pop
    have c1:upd l "page" (.int g) "self" = some (.inst "Room" ri):=ah rfl ∅ h1
    have h4':=k5.get h4 (by simpa using hnd)
    refine ⟨⟨upd l "page" (.int g),H'⟩,?_,cA h4',c1,ks,rfl,k3 _,ah rfl ∅ h3,h4'⟩
    exists c1,k4,k1,k2) _ ⟨l1,H1⟩ ⟨b1,em,rfl,⟨r,R1,hO,Rm.Sm.rfl r,rfl,eem▸(uw _ _).filter _,λg hg=>iX (aaF.mp (eem▸hg:g∈mF r.p (look r.ss))).1,dp.refl _ _,λi hi=>hi,rfl⟩,b2,x1⟩
 cases ks with
 | cons _ _=>simp at ek
 | nil =>
 obtain ⟨r',h1,h2,h3,h4,_,_,h7,h8,_⟩:=i2
 rw [uW] at h4
 haveI hlen:em.length<1000000:=by
  haveI:=zw r.p hO.p.2 (look r.ss)
  rw [eem] at this;exact id (cU 0xf4240a01000028a0011 this)
 rw [eem]
 refine ⟨r',q'.H,aU (m:=sB) (q:=q') rfl ?_,h1,h2,h3,h4,(dp.pre p1).trans h7,h8⟩
 rw [e0]
 refine ai t1 (ai (q':=q') ?_ ?_)
 ·exact bq (bq (g_get b2) (dt x1)) hq
 ·obtain ⟨l',H'⟩:=q'
  dsimp only at i3 i4
  haveI:=cH (l:=l') i4 (by simpa using hlen)
  rw [aai] at this
  exists i3,this
theorem xD:∃n H',A4 (fS [.inst "Room" ri] H= .ok (.ref n) H') (H<+:H') (H.length<=n) (H'[n]? = some (.list ((cX r.p (look r.ss)).filterMap (rH (look r.ss))))):=by
 obtain ⟨l0,e0,a1⟩:∃l0,aF ["self"] [.inst "Room" ri]=l0/\l0 "self" = some (.inst "Room" ri):=⟨_,rfl,rfl⟩
 haveI hs0:=oh hR hO l0
 rw [hO.keys] at hs0
 obtain ⟨ks,eks⟩:∃ks,cX r.p (look r.ss)=ks:=⟨_,rfl⟩
 rw [eks] at hs0 ⊢
 haveI hkl:=kr r.p hO.p.2 (look r.ss)
 rw [eks] at hkl
 have x1:(H++[O.list (ks.map V.int)])[H.length]? = some (.list (ks.map V.int)):=by simp
 haveI hc:∃H',gu ⟨l0,H⟩= .ok (.ref H'.length) ⟨l0,H'++[.list (ks.filterMap (rH (look r.ss)))]⟩/\H++[O.list (ks.map V.int)]<+:H':=by
  unfold gu
  refine dY (n:=H.length) (ks:=ks) ?_ x1 (by exact cU 0xf4240a00000028a0011 hkl) (rH (look r.ss)) λg hg Hx hp=> ?_
  ·exists a1,be hR,hs0
   exact dt x1
  ·obtain ⟨v,hv⟩:=iX (eks▸hg:g∈cX r.p (look r.ss))
   obtain ⟨s,hs,z1,z2⟩:=bn hv
   have hm:=(aW hs).1
   have hRx:=hR.pre ((aap _ _).trans hp)
   have b1:upd (fx ["self"] l0) "page" (.int g) "self" = some (.inst "Room" ri):=gc ∅ ∅ a1
   obtain ⟨mo,co⟩:=uV hRx hO hm (upd (fx ["self"] l0) "page" (.int g))
   haveI rs:=λl=>(nv hRx hm l).1
   haveI hE:rH (look r.ss) g=some (.tup [.int g,.int s.sz,.int (s.bs.count true)]):=by unfold rH;rw [hv,z1,z2]
   rw [hE]
   exact ⟨_,eE (H2:=Hx) rfl (by exists b1,be hRx,cG hRx hs,rs,mo,co),aap _ _⟩
 obtain ⟨H',hc,hp⟩:=hc
 have hp':H<+:H':=(aap _ _).trans hp
 refine ⟨H'.length,H'++[.list (ks.filterMap (rH (look r.ss)))],aU (m:=mY) (q:=⟨l0,_⟩) rfl ?_,hp'.trans (aap _ _),hp'.length_le,by simp⟩
 rw [e0]
 exists hc
theorem FJ {s:bG} {g:Int} (hf:d7 r.ss g=some s) {l:bw} (a1:l "self" = some (.inst "Room" ri)) (a2:l "shelf" = some (.inst "Shelf" s.sh)) :
  ∃H',fq ⟨l,H⟩= .ok (.ref H'.length) ⟨l,H'++[.list ((dP r.len (look r.ss) g).map aD)]⟩/\H<+:H':=by
 obtain ⟨hm,e⟩:=aW hf
 subst e
 have hS:=hR.shelf s hm
 have hb:=hO.bslen hm
 haveI hg:=FN hS hb
 haveI mg:∀l,dI "Shelf" "gone" (.inst "Shelf" s.sh) ⟨l,H⟩= .ok () ⟨l,H⟩:=λl=>cZ hS.ob rfl
 have x1:(H++[O.list ((cu 0 s.bs).map V.int)])[H.length]? = some (.list ((cu 0 s.bs).map V.int)):=by simp
 haveI hc:∃H',fq ⟨l,H⟩= .ok (.ref H'.length) ⟨l,H'++[.list ((cu 0 s.bs).filterMap λk=>some (aD (s.pg*r.len+k*s.sz,s.sz)))]⟩/\H++[O.list ((cu 0 s.bs).map V.int)]<+:H':=by
  unfold fq
  refine dY (n:=H.length) (ks:=cu 0 s.bs) ?_ x1 ?_ (λk=>some (aD (s.pg*r.len+k*s.sz,s.sz))) λk hk Hx hp=> ?_
  ·exists a2,mg,hg
   exact dt x1
  ·rw [iJ]
   haveI:s.bs.count true<=s.bs.length:=List.count_le_length
   exact id (cM 0xf4240a1001010003e8a0012 hb this)
  ·have hRx:=hR.pre ((aap _ _).trans hp)
   obtain ⟨j,rfl,hj⟩:=iK s.bs 0 k hk
   haveI hjl:=(aab.mp hj).1
   have hpg:=hO.pg s hm
   haveI hpp:=hO.p
   haveI vb:=tU hRx (hRx.shelf s hm) ((0+j:Nat):Int) ⟨hpg.1,by exact td 0x3e8a09000028a18110912 hpg.2 hpp.2⟩ ⟨by exact cU 0x9cf0980,by exact cM 0x3e8a109cf901110003e8a0012 hb hjl⟩
   haveI b1:upd (fx ["shelf", "self"] l) "slot" (.int ((0+j:Nat):Int)) "self" = some (.inst "Room" ri):=gc ∅ ∅ a1
   have b2:upd (fx ["shelf", "self"] l) "slot" (.int ((0+j:Nat):Int)) "shelf" = some (.inst "Shelf" s.sh):=gc ∅ ∅ a2
   haveI rs:=λl=>(nv hRx hm l).1
   exact ⟨Hx,eE (H2:=Hx) rfl (by exists b1,b2,aH hRx (f := "begin") ⟨by decide,by decide,by decide⟩,vb,rs),aac _⟩
 obtain ⟨H',hc,hp⟩:=hc
 refine ⟨H',?_,(aap _ _).trans hp⟩
 rw [hc]
 haveI:((cu 0 s.bs).filterMap λk=>some (aD (s.pg*r.len+k*s.sz,s.sz)))=(dP r.len (look r.ss) s.pg).map aD:=by
  unfold dP look
  rw [hf]
  simp [Function.comp_def]
 rw [this]
theorem FI (g:Int):(dP r.len (look r.ss) g).length<=1000:=by
 unfold dP
 split
 ·rename_i v hv
  obtain ⟨s,hs,_,hb⟩:=bn hv
  rw [aai,iJ,<- hb]
  exact aam List.count_le_length (hO.bslen (aW hs).1)
 ·simp
theorem FQ:∃n H',A4 (jT [.inst "Room" ri] H= .ok (.ref n) H') (H<+:H') (H.length<=n) (H'[n]? = some (.list ((b7 r.p r.len (look r.ss)).map aD))):=by
 obtain ⟨l0,e0,a1⟩:∃l0,aF ["self"] [.inst "Room" ri]=l0/\l0 "self" = some (.inst "Room" ri):=⟨_,rfl,rfl⟩
 obtain ⟨l1,el1⟩:∃l1,upd l0 "found" (.ref H.length)=l1:=⟨_,rfl⟩
 have b1:l1 "self" = some (.inst "Room" ri):=ah el1 ∅ a1
 haveI b2:l1 "found" = some (.ref H.length):=aA el1
 obtain ⟨H1,e1⟩:∃H1,H++[O.list []]=H1:=⟨_,rfl⟩
 have p1:H<+:H1:=⟨_,e1⟩
 have R1:=hR.pre p1
 haveI t1:my ⟨l0,H⟩= .ok .next ⟨l1,H1⟩:=by
  exists el1,e1
 haveI hs0:=oh R1 hO l1
 rw [hO.keys] at hs0
 unfold b7
 obtain ⟨ks,eks⟩:∃ks,cX r.p (look r.ss)=ks:=⟨_,rfl⟩
 rw [eks] at hs0 ⊢
 haveI hkl:=kr r.p hO.p.2 (look r.ss)
 rw [eks] at hkl
 obtain ⟨H2,e2⟩:∃H2,H1++[O.list (ks.map V.int)]=H2:=⟨_,rfl⟩
 have p2:H1<+:H2:=⟨_,e2⟩
 rw [e2] at hs0
 have x2:H2[H1.length]? = some (.list (ks.map V.int)):=by rw [<- e2];simp
 obtain ⟨q',hq,ys,n,acc,ey,_,i1,i2,i3,i4,i5,i6,i7⟩:=fU (g:=λH=>ay (.ref H1.length) H=some (ks.map V.int)) (bd:=a9 "page") (body:=lX)
  (λrem q=> ∃(ys:List Int) (n:Nat) (acc:List (Int×Int)),rem=ys.map V.int/\(∀y∈ys,y∈ks)/\q.l "self" = some (.inst "Room" ri)/\q.l "found" = some (.ref n)/\H2<+:q.H/\H.length<=n/\q.H[n]? = some (.list (acc.map aD)) /\
   acc++ys.flatMap (dP r.len (look r.ss))=ks.flatMap (dP r.len (look r.ss))/\acc.length+ys.length*1000<=50000) (λx rem q hI=>by
   obtain ⟨ys,n,acc,e,h1,h2,h3,h4,h5,h6,h7,h8⟩:=hI
   obtain ⟨l,Hq⟩:=q
   dsimp only at h2 h3 h4 h6
   cases ys with
   | nil=>simp at e
   | cons g ys =>
    obtain ⟨rfl,rfl⟩:x= .int g/\rem=ys.map V.int:=by simpa using e
    obtain ⟨v,hv⟩:=iX (eks▸h1 g (.head _):g∈cX r.p (look r.ss))
    obtain ⟨s,hs,_⟩:=bn hv
    have hRq:=hR.pre ((p1.trans p2).trans h4)
    obtain ⟨l2,el2⟩:∃l2,upd (upd l "page" (.int g)) "shelf" (.inst "Shelf" s.sh)=l2:=⟨_,rfl⟩
    haveI c0:upd l "page" (.int g) "self" = some (.inst "Room" ri):=ah rfl ∅ h2
    have c1:l2 "self" = some (.inst "Room" ri):=lT el2 ∅ ∅ h2
    haveI c2:l2 "shelf" = some (.inst "Shelf" s.sh):=aA el2
    haveI c3:l2 "found" = some (.ref n):=lT el2 ∅ ∅ h3
    obtain ⟨H3,hc,p3⟩:=FJ hRq hO hs c1 c2
    have hl:=FI hR hO g
    obtain ⟨H4,e4⟩:∃H4,H3++[O.list ((dP r.len (look r.ss) g).map aD)]=H4:=⟨_,rfl⟩
    rw [e4] at hc
    have p4:Hq<+:H4:=p3.trans ⟨_,e4⟩
    haveI y1:H4[n]? = some (.list (acc.map aD)):=aG p4 h6
    haveI y2:H4[H3.length]? = some (.list ((dP r.len (look r.ss) g).map aD)):=by rw [<- e4];simp
    haveI had:cS (.ref n) (.ref H3.length) ⟨l2,H4⟩= .ok (.ref H4.length) ⟨l2,H4++[.list ((acc++dP r.len (look r.ss) g).map aD)]⟩:=by
     haveI:(acc.map aD).length+((dP r.len (look r.ss) g).map aD).length<=1000000:=by simp at h8 ⊢;exact id (mK 0xf4240a20c00003e8a20100c350a10c012 h8 hl)
     rw [List.map_append];exact Jj y1 y2 this
    have p5:H2<+:H4++[O.list ((acc++dP r.len (look r.ss) g).map aD)]:=(h4.trans p4).trans (aap _ _)
    refine ⟨⟨upd l2 "found" (.ref H4.length),H4++[.list ((acc++dP r.len (look r.ss) g).map aD)]⟩,?_,cA (aG p5 x2),ys,H4.length,acc++dP r.len (look r.ss) g,rfl,λy hy=>h1 y (.tail _ hy),ah rfl ∅ c1,by simp [upd],p5,((p1.trans p2).trans (h4.trans p4)).length_le,by simp,?_,?_⟩
    ·rw [qv,Ak]
     refine ai (q':=⟨l2,Hq⟩) ?_ ?_
     ·exists c0,be hRq,cG hRq hs,el2
     ·exists c3,hc,had
    ·rw [<- h7];simp
    ·simp at h8 ⊢;exact aam (by rw [Nat.add_assoc];exact Nat.add_le_add_left (aam (Nat.add_le_add_right hl _) (Nat.le_of_eq (by rw [Nat.succ_mul,Nat.add_comm]))) _) h8) _ ⟨l1,H2⟩ ⟨ks,H.length,[],rfl,λy hy=>hy,b1,b2,aac _,aaD _,aG p2 (by rw [<- e1];simp),by simp,by simp;exact aam (Nat.mul_le_mul_right 1000 hkl) ∅⟩
 cases ys with
 | cons _ _=>simp at ey
 | nil =>
 simp at i6
 refine ⟨n,q'.H,aU (m:=oR) (q:=q') rfl ?_,(p1.trans p2).trans i3,i4,by rw [<- i6];exact i5⟩
 rw [e0]
 refine ai t1 (ai (q':=q') ?_ ?_)
 ·exists b1,be R1,hs0,dt x2;exact hq
 ·obtain ⟨l',H'⟩:=q'
  dsimp only at i2
  exists i2
end
noncomputable def JB (p len:Int) (F:Vw) (z:Int):Int :=
 nA ((cP p F z).map (F8 F))+(((pZ p F).length:Nat)+(((mF p F).filter λg => !mI F z g).length:Nat))*len.fdiv z
theorem Hz {H:Hp} {l:bw} {n:Nat} {ks:List Int} (h:H[n]? = some (.list (ks.map V.int))) (hl:ks.length<=1000000):BI [.ref n] ⟨l,H⟩= .ok (.int (nA ks)) ⟨l,H⟩:=by
 unfold BI;dsimp only;rw [h];dsimp only;rw [pF];exact if_pos hl
section
variable {H:Hp} {ri:Nat} {r:Rm} (hR:aN H ri r) (hO:r.Ok)
include hR hO
theorem BL {w:Int} (hw:1<=w):match r.xs.find? (λx=>decide (x>=w)) with
  | none=>dg [.inst "Room" ri,.int w] H= .exc "TooLarge" H
  | some z=> ∃H',dg [.inst "Room" ri,.int w] H= .ok (.int (JB r.p r.len (look r.ss) z)) H'/\H<+:H':=by
 obtain ⟨l0,e0,a1,a2⟩:∃l0,aF ["self", "places"] [.inst "Room" ri,.int w]=l0/\l0 "self" = some (.inst "Room" ri)/\l0 "places" = some (.int w):=⟨_,rfl,rfl,rfl⟩
 have hsf:=pQ H r.pl r.p r.len r.xs w hR.isPlan
 rw [if_neg (by exact bQ 0x190d019811 hw)] at hsf
 have hmp:∀l,dI "Plan" "size_for" (.inst "Plan" r.pl) ⟨l,H⟩= .ok () ⟨l,H⟩:=λl=>cZ hR.plan rfl
 cases hz:r.xs.find? (λx=>decide (x>=w)) with
 | none =>
  rw [hz] at hsf
  refine ce (m:=fu) (q:=⟨l0,H⟩) rfl ?_
  rw [e0]
  exact bY (by simp only [gf,qv,Hu,a1,a2,du hR,hmp,Hy,rC,hsf])
 | some z =>
  rw [hz] at hsf
  haveI hzx:z∈r.xs:=aaE hz
  dsimp only
  haveI t1:gf ⟨l0,H⟩= .ok .next ⟨upd l0 "size" (.int z),H⟩:=by exists a1,a2,du hR,hmp,hsf
  obtain ⟨l1,el1⟩:∃l1,upd l0 "size" (.int z)=l1:=⟨_,rfl⟩
  rw [el1] at t1
  have b1:l1 "self" = some (.inst "Room" ri):=ah el1 ∅ a1
  have b2:l1 "size" = some (.int z):=aA el1
  obtain ⟨n,H1,hof,p1,x1⟩:=xC hR hO z
  rw [hO.ofSz] at x1
  unfold JB
  have hzl:=vh r.p hO.p.2 (look r.ss) z
  obtain ⟨zs,ezs⟩:∃zs,cP r.p (look r.ss) z=zs:=⟨_,rfl⟩
  rw [ezs] at x1 hzl ⊢
  haveI hc1:∃H',fP ⟨l1,H⟩= .ok (.ref H'.length) ⟨l1,H'++[.list (zs.filterMap λg=>some (V.int (F8 (look r.ss) g)))]⟩/\H1<+:H':=by
   unfold fP
   refine dY (n:=n) (ks:=zs) ?_ x1 (by exact cU 0xf4240a00000028a0011 hzl) (λg=>some (V.int (F8 (look r.ss) g))) λg hg Hx hp=> ?_
   ·exists b1,b2,aH hR (f := "of_size") ⟨by decide,by decide,by decide⟩,hof
    exact dt x1
   ·obtain ⟨v,hv⟩:=iX (aaF.mp (ezs▸hg:g∈cP r.p (look r.ss) z)).1
    obtain ⟨s,hs,y1,y2⟩:=bn hv
    have hm:=(aW hs).1
    have hRx:=hR.pre (p1.trans hp)
    haveI c1:upd (fx ["self"] l1) "page" (.int g) "self" = some (.inst "Room" ri):=gc ∅ ∅ b1
    obtain ⟨mf,cf⟩:=yv hRx hO hm (upd (fx ["self"] l1) "page" (.int g))
    haveI hE:F8 (look r.ss) g=(gN 0 s.bs).length:=by unfold F8;rw [hv,y2]
    haveI hfl:=rc s.bs 0
    haveI hbl:=hO.bslen hm
    haveI hl:=cH (l:=upd (fx ["self"] l1) "page" (.int g)) (H:=Hx++[.list ((gN 0 s.bs).map V.int)]) (i:=Hx.length) (xs:=(gN 0 s.bs).map V.int) (by simp) (by simp;exact id (mK 0xf4240a010003e8a201210c212 hfl hbl))
    rw [aai] at hl
    rw [hE]
    exact ⟨_,eE (H2:=Hx) rfl (by exists c1,be hRx,cG hRx hs,mf,cf,hl),aap _ _⟩
  obtain ⟨H2,hc1,p2⟩:=hc1
  obtain ⟨H3,e3⟩:∃H3,H2++[O.list (zs.filterMap λg=>some (V.int (F8 (look r.ss) g)))]=H3:=⟨_,rfl⟩
  rw [e3] at hc1
  have p3:H<+:H3:=(p1.trans p2).trans ⟨_,e3⟩
  haveI x3:H3[H2.length]? = some (.list ((zs.map (F8 (look r.ss))).map V.int)):=by rw [<- e3];simp [Function.comp_def]
  haveI hsum:=Hz (l:=l1) x3 (by simp;exact id (cU 0xf4240a00000028a0011 hzl))
  have R3:=hR.pre p3
  obtain ⟨l2,el2⟩:∃l2,upd l1 "free" (.int (nA (zs.map (F8 (look r.ss)))))=l2:=⟨_,rfl⟩
  haveI t2:jO ⟨l1,H⟩= .ok .next ⟨l2,H3⟩:=by exists hc1,hsum,el2
  have c1:l2 "self" = some (.inst "Room" ri):=ah el2 ∅ b1
  have c2:l2 "size" = some (.int z):=ah el2 ∅ b2
  haveI c3:l2 "free" = some (.int (nA (zs.map (F8 (look r.ss))))):=aA el2
  obtain ⟨m,H4,he,p4,x4⟩:=tV R3 hO
  rw [hO.empt] at x4
  have hel:=zw r.p hO.p.2 (look r.ss)
  obtain ⟨es,ees⟩:∃es,mF r.p (look r.ss)=es:=⟨_,rfl⟩
  rw [ees] at x4 hel ⊢
  haveI hc2:∃H',fQ ⟨l2,H3⟩= .ok (.ref H'.length) ⟨l2,H'++[.list (es.filterMap λg=>if (!mI (look r.ss) z g) then some (V.int g) else none)]⟩/\H4<+:H':=by
   unfold fQ
   refine dY (n:=m) (ks:=es) ?_ x4 (by exact cU 0xf4240a00000028a0011 hel) (λg=>if (!mI (look r.ss) z g) then some (V.int g) else none) λg hg Hx hp=> ?_
   ·exists c1,aH R3 (f := "empty_pages") ⟨by decide,by decide,by decide⟩,he
    exact dt x4
   ·obtain ⟨v,hv⟩:=iX (aaF.mp (ees▸hg:g∈mF r.p (look r.ss))).1
    obtain ⟨s,hs,y1,y2⟩:=bn hv
    haveI hm:=(aW hs).1
    have hRx:=R3.pre (p4.trans hp)
    have rs:=λl=>(nv hRx hm l).1
    have d1:upd (fx ["size", "self"] l2) "page" (.int g) "self" = some (.inst "Room" ri):=gc ∅ ∅ c1
    have d2:upd (fx ["size", "self"] l2) "page" (.int g) "size" = some (.int z):=gc ∅ ∅ c2
    haveI hz':mI (look r.ss) z g=decide (s.sz=z):=by unfold mI;rw [hv,y1]
    rw [hz']
    refine ⟨Hx,?_,aac _⟩
    have d3:upd (fx ["size", "self"] l2) "page" (.int g) "page" = some (.int g):=lf _ _ _
    have eqz:=λq=>nq s.sz z q
    cases hb:decide (s.sz=z) with
    | false=>rw [hb] at eqz;exact eE (H2:=Hx) (by exists d1,d3,be hRx,cG hRx hs,rs,d2,eqz) (g_get d3)
    | true=>rw [hb] at eqz;exact qE (by exists d1,d3,be hRx,cG hRx hs,rs,d2,eqz)
  obtain ⟨H5,hc2,p5⟩:=hc2
  rw [eS] at hc2
  have hol:(es.filter λg => !mI (look r.ss) z g).length<=40:=aam (aa1 _ _) hel
  obtain ⟨os,eos⟩:∃os,(es.filter λg => !mI (look r.ss) z g)=os:=⟨_,rfl⟩
  rw [eos] at hc2 hol ⊢
  obtain ⟨H6,e6⟩:∃H6,H5++[O.list (os.map V.int)]=H6:=⟨_,rfl⟩
  rw [e6] at hc2
  have p6:H3<+:H6:=(p4.trans p5).trans ⟨_,e6⟩
  haveI x6:H6[H5.length]? = some (.list (os.map V.int)):=by rw [<- e6];simp
  obtain ⟨l3,el3⟩:∃l3,upd l2 "others" (.ref H5.length)=l3:=⟨_,rfl⟩
  haveI t3:jP ⟨l2,H3⟩= .ok .next ⟨l3,H6⟩:=by exists hc2,el3
  have d1:l3 "self" = some (.inst "Room" ri):=ah el3 ∅ c1
  haveI d2:l3 "size" = some (.int z):=ah el3 ∅ c2
  haveI d3:l3 "free" = some (.int (nA (zs.map (F8 (look r.ss))))):=ah el3 ∅ c3
  haveI d4:l3 "others" = some (.ref H5.length):=aA el3
  have R6:=R3.pre p6
  obtain ⟨_,hpl,rfl⟩:=yY R6 hO
  rw [tS] at hpl
  have hbl:=zf r.p hO.p.2 (look r.ss)
  obtain ⟨bp,ebp⟩:∃bp,pZ r.p (look r.ss)=bp:=⟨_,rfl⟩
  rw [ebp] at hpl hbl ⊢
  obtain ⟨H7,e7⟩:∃H7,H6++[O.list (bp.map V.int)]=H7:=⟨_,rfl⟩
  rw [e7] at hpl
  have p7:H6<+:H7:=⟨_,e7⟩
  have R7:=R6.pre p7
  haveI q1:=cH (l:=l3) (i:=H6.length) (xs:=bp.map V.int) (H:=H7) (by rw [<- e7];simp) (by simp;exact id (cU 0xf4240a01000028a0011 hbl))
  haveI q2:=cH (l:=l3) (i:=H5.length) (xs:=os.map V.int) (H:=H7) (aG p7 x6) (by simp;exact id (cU 0xf4240a01000028a0011 hol))
  rw [aai] at q1 q2
  haveI hper:=BB R7 hO hzx
  haveI hpm:∀l,dI "Plan" "per" (.inst "Plan" r.pl) ⟨l,H7⟩= .ok () ⟨l,H7⟩:=λl=>cZ R7.plan rfl
  haveI hmul:∀q,gx (.int ((bp.length:Int)+(os.length:Int))) (.int (r.len.fdiv z)) q= .ok (.int (((bp.length:Int)+(os.length:Int))*r.len.fdiv z)) q:=λq=>uQ _ _ q (IB (by exact cM 0x1f0fc0980) (by exact cM 0xf4240a0f1fc9000028a101000028a0012 hol hbl))
  refine ⟨H7,aU (m:=fu) (q:=⟨l3,H7⟩) rfl ?_,p3.trans (p6.trans p7)⟩
  rw [e0]
  refine ai t1 (ai t2 (ai t3 ?_))
  exists d1,d2,d3,d4,aH R6 (f := "pile") ⟨by decide,by decide,by decide⟩,hpl,q1,q2,du R7,hpm,hper,hmul
end
noncomputable def CA (F:Vw) (g:Int):Bool:=match F g with | some v=>(bA v.2).isSome | none=>false
theorem uL {F:Vw} {g:Int} (h:CA F g=true):∃v j,F g=some v/\bA v.2=some j:=by
 unfold CA at h
 split at h
 ·rename_i v hv
  obtain ⟨j,hj⟩:=aaQ.mp h
  exact ⟨v,j,hv,hj⟩
 ·cases h
noncomputable def pM (len z:Int) (stay:List Int) (F:Vw) (it:Int×Int):(Int×Int)×Vw:=match stay.find? (CA F) with
 | some h=>(match F h with
  | some v=>(match bA v.2 with
   | some j=>((it.1*len+it.2*z,h*len+(j:Nat)*z),dq F h (some (z,v.2.set j true)))
   | none=>((0,0),F))
  | none=>((0,0),F))
 | none=>((0,0),F)
theorem yj {len z:Int} {stay:List Int} {F:Vw} (it:Int×Int) {h:Int} {v:Int×List Bool} {j:Nat} (h1:stay.find? (CA F)=some h) (h2:F h=some v) (h3:bA v.2=some j) :
  pM len z stay F it=((it.1*len+it.2*z,h*len+(j:Nat)*z),dq F h (some (z,v.2.set j true))):=by
 unfold pM;rw [h1];dsimp only;rw [h2];dsimp only;rw [h3]
noncomputable def f8 (len z:Int) (stay:List Int):Vw->List (Int×Int)->List (Int×Int)×Vw
 | F,[]=>([],F)
 | F,it::r=>((pM len z stay F it).1::(f8 len z stay (pM len z stay F it).2 r).1,(f8 len z stay (pM len z stay F it).2 r).2)
theorem xo (len z:Int) (stay:List Int) (F:Vw):f8 len z stay F []=([],F):=rfl
theorem Bw (len z:Int) (stay:List Int) (F:Vw) (it:Int×Int) (r:List (Int×Int)):f8 len z stay F (it::r)=((pM len z stay F it).1::(f8 len z stay (pM len z stay F it).2 r).1,(f8 len z stay (pM len z stay F it).2 r).2):=rfl
noncomputable def EZ (len z:Int) (stay:List Int):Vw->List (Int×Int)->Prop
 | _,[]=>True
 | F,it::r=>(stay.find? (CA F)).isSome=true/\EZ len z stay (pM len z stay F it).2 r
noncomputable def Hi (F:Vw) (g:Int):Nat:=match F g with | some v=>v.2.count false | none=>0
noncomputable def lA (F:Vw) (stay:List Int):Nat:=(stay.map (Hi F)).sum
theorem r0:∀ {bs:List Bool} {j:Nat},bA bs=some j->(bs.set j true).count false+1=bs.count false
 | [],_,h=>by cases h
 | false::r,j,h=>by
  cases h
  rw [List.set_cons_zero,aa5 ∅,List.count_cons_self]
 | true::r,j,h=>by
  change (bA r).map (· + 1)=some j at h
  cases hf:bA r with
  | none=>rw [hf] at h;cases h
  | some i =>
   rw [hf] at h
   cases h
   rw [List.set_cons_succ,aa5 ∅,aa5 ∅]
   exact r0 hf
theorem ue:∀ {bs:List Bool},0<bs.count false->(bA bs).isSome=true
 | [],h=>by simp at h
 | false::r,h=>rfl
 | true::r,h=>by
  rw [aa5 ∅] at h
  rw [bA,Option.isSome_map]
  exact ue h
theorem HY:∀bs:List Bool,bs.count true+bs.count false=bs.length
 | []=>rfl
 | true::r=>by rw [List.count_cons_self,aa5 ∅,aav];have:=HY r;exact id (aaf (mK 0x192c1190cc0210c211 this) (mK 0x1190cc192c0210c311 this))
 | false::r=>by rw [List.count_cons_self,aa5 ∅,aav];have:=HY r;exact id (aaf (mK 0x192c191c0c0210c211 this) (mK 0x191c0c192c0210c311 this))
theorem xd {F:Vw}:∀ {stay:List Int},0<lA F stay->(stay.find? (CA F)).isSome=true
 | [],h=>by simp [lA] at h
 | g::r,h=>by
  by_cases ho:CA F g=true
  ·rw [aaC ho];rfl
  ·rw [aay ho]
   haveI:Hi F g=0:=by
    unfold CA at ho
    unfold Hi
    split
    ·rename_i v hv
     rw [hv] at ho
     rcases Nat.eq_zero_or_pos (v.2.count false) with h0 | h0
     ·exact h0
     ·exact absurd (ue h0) ho
    ·rfl
   unfold lA at h
   rw [aas,List.sum_cons,this,aa2] at h
   exact xd h
theorem DK {f f':Int->Nat}:∀ {l:List Int},(∀x∈l,f x=f' x)->(l.map f).sum=(l.map f').sum:=λh=>by rw [List.map_congr_left h]
theorem CO {f f':Int->Nat} {h:Int} (hh:f' h+1=f h) (hn:∀x,x≠h->f' x=f x):∀ {l:List Int},l.Nodup->h∈l->(l.map f').sum+1=(l.map f).sum
 | [],_,hm=>by cases hm
 | x::l,hd,hm=>by
  rw [List.nodup_cons] at hd
  rw [aas,aas,List.sum_cons,List.sum_cons]
  rcases aal.mp hm with rfl | hm
  ·have:(l.map f').sum=(l.map f).sum:=DK λy hy=>hn y λe=>hd.1 (e▸hy)
   exact id (aaf (vS 0x31c1920cc032211190c212 hh this) (vS 0x1920cc31c032311190c312 hh this))
  ·have h1:=CO hh hn hd.2 hm
   have h2:f' x=f x:=hn x λe=>hd.1 (e▸hm)
   exact id (aaf (vS 0x13c1902cc032211190c212 h1 h2) (vS 0x1902cc13c032311190c312 h1 h2))
theorem Df {len z:Int} {stay:List Int} {F:Vw} (it:Int×Int) (hd:stay.Nodup) (h:(stay.find? (CA F)).isSome=true):lA (pM len z stay F it).2 stay+1=lA F stay:=by
 obtain ⟨g,hg⟩:=aaQ.mp h
 obtain ⟨v,j,hv,hj⟩:=uL (List.find?_some hg)
 rw [yj it hg hv hj]
 dsimp only
 unfold lA
 refine CO (h:=g) ?_ (λx hx=> ?_) hd (aaE hg)
 ·unfold Hi
  rw [dh,hv]
  exact r0 hj
 ·unfold Hi
  rw [iE _ _ hx]
theorem Cw {len z:Int} {stay:List Int} (hd:stay.Nodup):∀ {its:List (Int×Int)} {F:Vw},its.length<=lA F stay->EZ len z stay F its
 | [],_,_=>trivial
 | it::r,F,h=>by
  rw [aav] at h
  have h1:(stay.find? (CA F)).isSome=true:=xd (by exact cM 0x10911190c011 h)
  haveI h2:=Df (len:=len) (z:=z) it hd h1
  exact ⟨h1,Cw hd (by exact mK 0x2001192c311190c012 h h2)⟩
noncomputable def zT (F:Vw) (g:Int):List (Int×Int):=match F g with | some v=>(cu 0 v.2).map λk=>(g,k) | none=>[]
noncomputable def df (F:Vw) (stay ys:List Int):List (Int×Int):=ys.flatMap λg=>if g∈stay then [] else zT F g
noncomputable def iQ (F:Vw) (g:Int):Int:=((gh F g:Nat):Int)
noncomputable def dM (p:Int) (F:Vw) (z:Int):List (Int×Int):=kK ((cP p F z).map λg=>(-iQ F g,g))
noncomputable def dk (p len:Int) (F:Vw) (z:Int):Int:=(nA ((cP p F z).map (iQ F))+len.fdiv z-1).fdiv (len.fdiv z)
noncomputable def bU (p len:Int) (F:Vw) (z:Int):List Int:=eD (((dM p F z).take (dk p len F z).toNat).map (·.2))
theorem vg (f:Int->Nat):∀l:List Int,nA (l.map λg=>((f g:Nat):Int))=(((l.map f).sum:Nat):Int)
 | []=>rfl
 | g::l=>by rw [aas,DJ,vg f l,aas,List.sum_cons];push_cast;rfl
section
variable {p len z:Int} {F:Vw} (hs:∀g v,F g=some v->v.1=z->(v.2.length:Int)=len.fdiv z) (hz:1<=len.fdiv z)
theorem qS:(cP p F z).Nodup:=(uw p F).filter _
theorem AQ {g:Int} (h:g∈cP p F z):∃bs,F g=some (z,bs):=by
 obtain ⟨h1,h2⟩:=aaF.mp h
 obtain ⟨v,hv⟩:=iX h1
 unfold mI at h2
 rw [hv] at h2
 haveI:v.1=z:=by simpa using h2
 exact ⟨v.2,by rw [hv,<- this]⟩
theorem kH:((dM p F z).map (·.2)).Perm (cP p F z):=by
 haveI:=(lN ((cP p F z).map λg=>(-iQ F g,g))).map (·.2)
 rw [List.map_map] at this
 unfold dM
 refine this.trans ?_
 haveI:(cP p F z).map ((λx:Int×Int=>x.2)∘λg=>(-iQ F g,g))=cP p F z:=by
  rw [show ((λx:Int×Int=>x.2)∘λg=>(-iQ F g,g))=id from rfl,List.map_id]
 rw [this]
theorem oo:(bU p len F z).Perm (((dM p F z).take (dk p len F z).toNat).map (·.2)):=jj _
theorem As:(((dM p F z).take (dk p len F z).toNat).map (·.2)).Sublist ((dM p F z).map (·.2)):=(List.take_sublist _ _).map _
theorem vf:(bU p len F z).Nodup:=oo.nodup_iff.mpr ((kH.nodup_iff.mpr qS).sublist As)
theorem tT {g:Int} (h:g∈bU p len F z):g∈cP p F z:=kH.mem_iff.mp (As.mem (oo.mem_iff.mp h))
theorem yi (stay:List Int):∀ys:List Int,(df F stay ys).length=((ys.filter λg => !decide (g∈stay)).map (gh F)).sum
 | []=>rfl
 | g::ys=>by
  unfold df
  rw [aaZ,aad]
  have ih:=yi stay ys
  unfold df at ih
  by_cases h:g∈stay
  ·rw [if_pos h,aaP (by simp [h]),ih];simp
  ·rw [if_neg h,aaO (by simp [h]),ih,aas,List.sum_cons]
   haveI:(zT F g).length=gh F g:=by
    unfold zT gh
    cases F g with
    | some v=>dsimp only;rw [aai,iJ]
    | none=>rfl
   rw [this]
include hs hz
theorem cap:(df F (bU p len F z) (cP p F z)).length<=lA F (bU p len F z):=by
 haveI hper:∀g∈cP p F z,Hi F g+gh F g=(len.fdiv z).toNat:=λg hg=>by
  obtain ⟨bs,hb⟩:=AQ hg
  have h1:=hs g _ hb rfl
  dsimp only at h1
  have h2:=HY bs
  unfold Hi gh
  rw [hb]
  dsimp only
  exact id (aaf (hH [_,_,_,_] [_] 0x312c03f081021c2100fa13 h1 h2 (Int.self_le_toNat _)) (hH [_,_,_,_] [_] 0x12c3003fa1021c3100fb13 h1 h2 (aaq (bQ 0x98019811 hz))))
 obtain ⟨per,eper⟩:∃per,(len.fdiv z).toNat=per:=⟨_,rfl⟩
 rw [eper] at hper
 have hper1:len.fdiv z=(per:Int):=by exact aa0 (kx 0x1f080f08110212 eper (Int.self_le_toNat _)) (kx 0x1f800fa110312 eper (aaq (bQ 0x98019811 hz)))
 rw [yi]
 obtain ⟨zs,ezs⟩:∃zs,cP p F z=zs:=⟨_,rfl⟩
 obtain ⟨st,est⟩:∃st,bU p len F z=st:=⟨_,rfl⟩
 haveI hzn:zs.Nodup:=ezs▸qS
 haveI hsn:st.Nodup:=est▸vf
 have hsi:∀g∈st,g∈zs:=λg hg=>ezs▸tT (est▸hg)
 rw [ezs] at hper ⊢
 rw [est]
 -- the sums
 haveI s1:(zs.map (gh F)).sum=((zs.filter λg=>decide (g∈st)).map (gh F)).sum+((zs.filter λg => !decide (g∈st)).map (gh F)).sum:=by
  haveI:=(List.filter_append_perm (λg=>decide (g∈st)) zs).map (gh F)
  rw [<- this.sum_nat,List.map_append,List.sum_append]
 haveI s2:((zs.filter λg=>decide (g∈st)).map (gh F)).sum=(st.map (gh F)).sum:=by
  refine List.Perm.sum_nat (List.Perm.map _ ?_)
  refine (List.perm_ext_iff_of_nodup (hzn.filter _) hsn).mpr λg=> ?_
  rw [aaF]
  constructor
  ·rintro ⟨_,h⟩;simpa using h
  ·intro h;exact ⟨hsi g h,by simpa using h⟩
 have tot:∀l:List Int,(∀g∈l,g∈zs)->(l.map (Hi F)).sum+(l.map (gh F)).sum=l.length*per:=λl hl=>by
  clear s1 s2
  induction l with
  | nil=>simp
  | cons g l ih =>
   have h1:=hper g (hl g (.head _))
   have h2:=ih λx hx=>hl x (.tail _ hx)
   rw [aas,aas,List.sum_cons,List.sum_cons,aav,Nat.succ_mul]
   exact id (aaf (hH [_,_,_,_,_,_] [] 0x25c41c30cc0543c21210c212 h1 h2) (hH [_,_,_,_,_,_] [] 0x41c30cc25c0543c31210c312 h1 h2))
 haveI h3:=tot st hsi
 haveI h4:(zs.map (gh F)).sum<=zs.length*per:=by haveI:=tot zs λg hg=>hg;exact id (mK 0x210210c211 this)
 -- how many stay
 haveI hlen:st.length=min (dk p len F z).toNat zs.length:=by
  rw [<- est,oo.length_eq,aai,List.length_take]
  congr 1
  rw [<- ezs,<- (kH (p:=p) (F:=F) (z:=z)).length_eq,aai]
 haveI hmany:(zs.map (gh F)).sum<=st.length*per:=by
  have hne:dk p len F z=((((zs.map (gh F)).sum:Nat):Int)+(per:Int)-1).fdiv (per:Int):=by
   unfold dk
   rw [ezs,hper1]
   congr 2
   congr 1
   exact vg (gh F) zs
  rw [hlen]
  rcases Nat.le_total (dk p len F z).toNat zs.length with h | h
  ·rw [Nat.min_eq_left h]
   obtain ⟨u1,u2,u3,u4⟩:=er (a:=(((zs.map (gh F)).sum:Nat):Int)+(per:Int)-1) (b:=per) (by exact kx 0x190f1fce0980f0a1019812 hz hper1) (by exact j5 0xf1980f0a1019812 hz hper1)
   rw [<- hne] at u1 u4
   rw [Int.add_mul] at u4
   haveI:(((dk p len F z).toNat*per:Nat):Int)=dk p len F z*per:=by push_cast;rw [aaq u1]
   exact id (hH [_,_,_] [_] 0x20002fb11f01d0c191f0fce912 u4 this)
  ·rw [Nat.min_eq_right h];exact h4
 unfold lA
 exact id (hH [_,_,_,_,_,_] [] 0x4205001534c31313121c0314 s1 s2 h3 hmany)
theorem EE:EZ len z (bU p len F z) F (df F (bU p len F z) (cP p F z)):=Cw vf (cap hs hz)
end
noncomputable def Ig (p len:Int) (F:Vw) (z:Int):List (Int×Int):=(f8 len z (bU p len F z) F (df F (bU p len F z) (cP p F z))).1
noncomputable def Jo (p len:Int) (F:Vw) (z:Int):Vw:=fF (f8 len z (bU p len F z) F (df F (bU p len F z) (cP p F z))).2 ((cP p F z).filter λg => !decide (g∈bU p len F z))
theorem EP (F:Vw) (stay:List Int) (n:Nat) (hn:∀g,gh F g<=n):∀ys:List Int,(df F stay ys).length<=ys.length*n
 | []=>by simp [df]
 | g::ys=>by
  have ih:=EP F stay n hn ys
  rw [yi] at ih ⊢
  haveI:=hn g
  by_cases h:g∈stay
  ·rw [aaP (by simp [h]),aav,Nat.succ_mul];exact id (mK 0x21c0010011 ih)
  ·rw [aaO (by simp [h]),aas,List.sum_cons,aav,Nat.succ_mul];exact id (vS 0x31c02c0320110012 ih this)
theorem zE {φ : Int->Option V} {o:Int->Bool} (hφ : ∀g,o g=false -> φ g=none) {h:Int} {x:V} (hx : φ h=some x):∀ {l:List Int},l.find? o=some h->(l.filterMap φ)[0]? = some x
 | [],e=>by cases e
 | g::l,e=>by
  cases ho:o g with
  | true =>
   rw [aaC ho] at e
   cases e
   rw [List.filterMap_cons_some hx];rfl
  | false =>
   rw [aay (by rw [ho];simp)] at e
   rw [List.filterMap_cons_none (hφ g ho)]
   exact zE hφ hx e
noncomputable def FE (ss:List bG) (g:Int):Option V:=match d7 ss g with | some s=>if (bA s.bs).isSome then some (.inst "Shelf" s.sh) else none | none=>none
theorem IQ {ss:List bG} {g:Int} (h:CA (look ss) g=false):FE ss g=none:=by
 unfold CA look at h
 unfold FE
 cases hf:d7 ss g with
 | none=>rfl
 | some s=>rw [hf] at h;dsimp only [Option.map_some] at h;simp [h]
section
variable {H:Hp} {ri:Nat} {r:Rm} (hR:aN H ri r) (hO:r.Ok)
include hR hO
inductive Ko (H:Hp) (ri:Nat) (r:Rm) (pl th z:Int) (rem:List V) (q:S):Prop
 | mk (cs ys:List Int) (f0:rem=ys.map V.int) (f1:(∀y∈ys,0<=y/\y<z)) (f2:cs.length=r.cs.length) (f3:aN q.H ri { r with cs:=cs }) (f4:dp [r.c] H q.H) (f5:q.l "self" = some (.inst "Room" ri)) (f6:q.l "place" = some (.int pl)) (f7:q.l "there" = some (.int th))
theorem Dd {pl th z:Int} (hz:0<=z/\z<=1000) (hin:∀j,0<=j->j<z->0<=pl+j/\pl+j<r.cs.length) (hth:∀j,0<=j->j<z->0<=th+j/\th+j<r.cs.length) {l:bw} (h1:l "self" = some (.inst "Room" ri)) (h2:l "place" = some (.int pl)) (h3:l "size" = some (.int z)) (h4:l "there" = some (.int th)) :
  ∃cs q',A6 (nM ⟨l,H⟩= .ok .next q') (cs.length=r.cs.length) (aN q'.H ri { r with cs:=cs }) (dp [r.c] H q'.H) (q'.l "place" = some (.int pl)) (q'.l "there" = some (.int th)):=by
 obtain ⟨ys,e,hy⟩:=uT z
 obtain ⟨q',hq,cs,_,_,_,i1,i2,i3,i4,i5,i6⟩:=fU (g:=λ_=>True) (bd:=a9 "step") (body:=mP) (Ko H ri r pl th z) (λx rem q hI=>by
  obtain ⟨cs,ys,e,h1,h2,h3,h4,h5,h6,h7⟩:=hI
  obtain ⟨l,Hq⟩:=q
  dsimp only at h3 h4 h5 h6 h7
  cases ys with
  | nil=>simp at e
  | cons y ys =>
   obtain ⟨rfl,rfl⟩:x= .int y/\rem=ys.map V.int:=by simpa using e
   obtain ⟨y1,y2⟩:=h1 y (.head _)
   have hO':=Rm.Ok.setCs hR hO h2
   obtain ⟨k1,k2⟩:=hin y y1 y2
   obtain ⟨k3,k4⟩:=hth y y1 y2
   obtain ⟨v,_,hv⟩:=CG h3 hO' (i:=pl+y) k1 (by show _<((cs.length:Nat):Int);exact id (hH [_,_] [_,_] 0xf10c91f10c9110312 h2 k2))
   haveI hc:=yu h3 hO' (i:=th+y) (v:=v) k3 (by show _<((cs.length:Nat):Int);exact id (hH [_,_] [_,_] 0xf10c91f10c9110312 h2 k4)) (upd l "step" (.int y))
   have hc2:=kI h3 (upd l "step" (.int y))
   have a1:upd l "step" (.int y) "self" = some (.inst "Room" ri):=ah rfl ∅ h5
   have a2:upd l "step" (.int y) "place" = some (.int pl):=ah rfl ∅ h6
   have a3:upd l "step" (.int y) "there" = some (.int th):=ah rfl ∅ h7
   dsimp only at hv hc hc2
   refine ⟨⟨upd l "step" (.int y),Hq.set r.c (.list ((cs.set (th+y).toNat v).map V.int))⟩,?_,trivial,cs.set (th+y).toNat v,ys,rfl,λy' hy'=>h1 y' (.tail _ hy'),by rw [List.length_set];exact h2,aN.setCs h3 hO' _,h4.trans (dp.set (by simp)),a1,a2,a3⟩
   exists a1,a2,a3,hc2,hv,hc) _ ⟨l,H⟩ ⟨r.cs,ys,e,hy,rfl,hR,dp.refl _ _,h1,h2,h4⟩
 refine ⟨cs,q',?_,i1,i2,i3,i5,i6⟩
 exists h3,kz z _ (Kl hz)
 exact hq
theorem GW {n:Nat} {stay:List Int} {z pl:Int} (hn:H[n]? = some (.list (stay.map V.int))) (hst:∀g∈stay,∃bs,look r.ss g=some (z,bs)) (hlen:stay.length<=40) (hpl:∀j,0<=j->j<z->0<=pl+j/\pl+j<r.cs.length)
  {h:Int} {bs:List Bool} {j:Nat} (h1:stay.find? (CA (look r.ss))=some h) (h2:look r.ss h=some (z,bs)) (h3:bA bs=some j) :
  ∃r' H',A8 (ly [.inst "Room" ri,.int pl,.ref n,.int z] H= .ok (aD (pl,h*r.len+(j:Nat)*z)) H') (aN H' ri r') r'.Ok (r.Sm r') (look r'.ss=dq (look r.ss) h (some (z,bs.set j true))) (dp (r.own ri) H H') (r'.own ri=r.own ri) (r'.cs.length=r.cs.length):=by
 refine oE λG kG=> ?_
 obtain ⟨l0,e0,a1,a2,a3,a4⟩:∃l0,aF ["self", "place", "stay", "size"] [.inst "Room" ri,.int pl,.ref n,.int z]=l0/\l0 "self" = some (.inst "Room" ri)/\l0 "place" = some (.int pl)/\l0 "stay" = some (.ref n)/\l0 "size" = some (.int z):=⟨_,rfl,rfl,rfl,rfl,rfl⟩
 obtain ⟨s,hs,y1,y2⟩:=bn h2
 dsimp only at y1 y2
 subst y1 y2
 obtain ⟨hm,ehp⟩:=aW hs
 subst ehp
 haveI hc:∃H',iP ⟨l0,H⟩= .ok (.ref H'.length) ⟨l0,H'++[.list (stay.filterMap (FE r.ss))]⟩/\H<+:H':=by
  unfold iP
  refine dY (n:=n) (ks:=stay) ?_ hn (by exact cU 0xf4240a00000028a0011 hlen) (FE r.ss) λg hg Hx hp=> ?_
  ·exists a3
   exact dt hn
  ·obtain ⟨bs',hb'⟩:=hst g hg
   obtain ⟨s',hs',z1,z2⟩:=bn hb'
   haveI hm':=(aW hs').1
   have hRx:=hR.pre hp
   refine bz (upd (fx ["self"] l0) "page" (.int g)) λlc elc=> ?_
   have b1:lc "self" = some (.inst "Room" ri):=by rw [<- elc,ig _ _ ∅,CK (by simp)];exact a1
   have b2:lc "page" = some (.int g):=aA elc
   obtain ⟨mf,cf⟩:=yv hRx hO hm' lc
   refine bz (Hx++[O.list ((gN 0 s'.bs).map V.int)]) λH2 e2=> ?_
   refine bz (H2++[O.list []]) λH3 e3=> ?_
   have p2:Hx<+:H2:=⟨_,e2⟩
   have p3:H2<+:H3:=⟨_,e3⟩
   rw [e2] at cf
   have n1:dr [] ⟨lc,H2⟩= .ok (.ref H2.length) ⟨lc,H3⟩:=by rw [uR,if_pos (by simp),e3]
   haveI g1:H3[Hx.length]? = some (.list ((gN 0 s'.bs).map V.int)):=aG p3 (by rw [<- e2];simp)
   have q1:ko (.ref Hx.length) (.ref H2.length) ⟨lc,H3⟩= .ok (!(bA s'.bs).isSome) ⟨lc,H3⟩:=by
    rw [n9 (q:=⟨lc,H3⟩) (ys:=[]) g1 (by rw [<- e3];simp),rd]
   have hR3:=hRx.pre (p2.trans p3)
   haveI hE:FE r.ss g=if (bA s'.bs).isSome then some (.inst "Shelf" s'.sh) else none:=by unfold FE;rw [hs']
   rw [hE]
   refine ⟨H3,?_,p2.trans p3⟩
   cases hb:(bA s'.bs).isSome with
   | true =>
    rw [hb] at q1
    exact eE (H2:=H3) (by rw [elc];exists b1,b2,be hRx,cG hRx hs',mf,cf,n1,q1) (by rw [elc];exists b1,b2,be hR3,cG hR3 hs')
   | false =>
    rw [hb] at q1
    exact qE (by rw [elc];exists b1,b2,be hRx,cG hRx hs',mf,cf,n1,q1)
 obtain ⟨H1,hc,p1⟩:=hc
 refine bz (H1++[O.list (stay.filterMap (FE r.ss))]) λH2 e2=> ?_
 rw [e2] at hc
 have p2:H<+:H2:=p1.trans ⟨_,e2⟩
 haveI x0:(stay.filterMap (FE r.ss))[0]? = some (.inst "Shelf" s.sh):=zE (λg hg=>IQ hg) (by unfold FE;rw [hs];dsimp only;rw [h3];rfl) h1
 haveI x2:H2[H1.length]? = some (.list (stay.filterMap (FE r.ss))):=by rw [<- e2];simp
 haveI hit:aR (.ref H1.length) (.int 0) ⟨l0,H2⟩= .ok (.inst "Shelf" s.sh) ⟨l0,H2⟩:=by
  haveI x0':(stay.filterMap (FE r.ss))[(0:Int).toNat]? = some (.inst "Shelf" s.sh):=x0
  exact EM x2 ⟨by decide,by decide⟩ x0'
 refine bz (upd l0 "shelf" (.inst "Shelf" s.sh)) λl1 el1=> ?_
 haveI t1:nK ⟨l0,H⟩= .ok .next ⟨l1,H2⟩:=by exists hc,hit,el1
 have c1:l1 "self" = some (.inst "Room" ri):=ah el1 ∅ a1
 haveI c2:l1 "place" = some (.int pl):=ah el1 ∅ a2
 have c3:l1 "shelf" = some (.inst "Shelf" s.sh):=aA el1
 haveI c4:l1 "size" = some (.int s.sz):=ah el1 ∅ a4
 have R2:=hR.pre p2
 obtain ⟨mt,ct,R3,O3⟩:=CJ R2 hO hm h3 l1
 refine bz (H2.set s.t (.list ((s.bs.set j true).map V.bool))) λH3 e3=> ?_
 rw [e3] at ct R3
 haveI g3:dp (r.own ri) H2 H3:=by rw [<- e3];exact dp.set (Fa ri hm)
 have hj:=(jD h3).1
 haveI hbl:=hO.bslen hm
 have hpg:=hO.pg s hm
 haveI hpp:=hO.p
 haveI hs1:jt H3 s.sh s.t s.pg s.sz (s.bs.set j true):=R3.shelf { s with bs:=s.bs.set j true } (aag.mpr ⟨s,hm,by simp⟩)
 haveI vb:=tU R3 (s:={ s with bs:=s.bs.set j true }) hs1 j ⟨hpg.1,by show s.pg<1000;exact id (td 0x3e8a09000028a18110912 hpg.2 hpp.2)⟩ ⟨by exact cU 0xf0980,by exact cM 0x3e8a0f90003e8a10110112 hj hbl⟩
 dsimp only at vb
 refine bz (upd l1 "there" (.int (s.pg*r.len+j*s.sz))) λl2 el2=> ?_
 haveI t2:nL ⟨l1,H2⟩= .ok .next ⟨l2,H3⟩:=by
  exists c1,c3,aH R2 (f := "begin") ⟨by decide,by decide,by decide⟩,mt,ct,vb,el2
 have hsz:=hO.szpos hm
 haveI hlen':=hO.len
 obtain ⟨cs,q',i0,i1,i2,i3,i4,i5⟩:=Dd R3 O3 (pl:=pl) (th:=s.pg*r.len+j*s.sz) (z:=s.sz) ⟨by exact bQ 0x98019811 hsz.1,by exact td 0x3e8a0800003ca18110812 hsz.2 hlen'.2⟩ hpl (λi j1 j2=>by
   obtain ⟨u1,u2,_⟩:=om hO hm (k:=j) (by exact cU 0xf0980) (by exact cM 0x1f0f910111 hj) j1 j2
   exact ⟨u1,u2⟩) (l:=l2) (ah el2 ∅ c1) (ah el2 ∅ c2) (ah el2 ∅ c4) (by rw [<- el2];simp [upd])
 obtain ⟨l',H'⟩:=q'
 dsimp only at i2 i3 i4 i5
 refine kG ⟨_,H',aU (m:=qm) (q:=⟨l',H'⟩) rfl (by rw [e0];exact ai t1 (ai t2 (ai i0 (by exists i4,i5)))),i2,Rm.Ok.setCs R3 O3 i1,⟨rfl,rfl,rfl,rfl,rfl,rfl,rfl⟩,?_,((dp.pre p2).trans g3).trans (i3.mono λi hi _=> ?_),?_,i1⟩
 ·exact pK hs _
 ·rw [aaj.mp hi];exact E8 ri r
 ·show Rm.own ri { r with ss:=setBs r.ss s.pg (s.bs.set j true) }=_
  unfold Rm.own
  dsimp only
  rw [u7,oj]
end
theorem vV {H:Hp} {l:bw} {n:Nat} {ns:List Int} (h:H[n]? = some (.list (ns.map V.int))) (hl:ns.length<64):cN [.ref n] ⟨l,H⟩= .ok (.ref H.length) ⟨l,H++[.list ((eD ns).map V.int)]⟩:=by
 unfold cN;dsimp only;rw [h];dsimp only;rw [pF];exact if_pos hl
theorem nu {H:Hp} {l:bw} {n:Nat} {ps:List (Int×Int)} (h:H[n]? = some (.list (ps.map aD))) (hl:ps.length<1000000):cN [.ref n] ⟨l,H⟩= .ok (.ref H.length) ⟨l,H++[.list ((kK ps).map aD)]⟩:=by
 cases ps with
 | nil =>
  haveI:kK []=[]:=List.Perm.eq_nil (lN [])
  unfold cN;dsimp only;rw [h,this];rfl
 | cons p ps =>
  haveI h1:dX sj ((p::ps).map aD)=none:=by
   rw [aas];rfl
  unfold cN;dsimp only;rw [h];dsimp only;rw [h1];dsimp only;rw [xr];exact if_pos hl
theorem IH {H:Hp} {l:bw} {n:Nat} {ps:List (Int×Int)} {b:Int} (h:H[n]? = some (.list (ps.map aD))) (hl:ps.length<=1000000) (hb:0<=b):Aw (.ref n) (.int b) ⟨l,H⟩= .ok (.ref H.length) ⟨l,H++[.list ((ps.take b.toNat).map aD)]⟩:=by
 haveI:0<=b/\(ps.map aD).length<=1000000:=⟨hb,by simpa using hl⟩
 unfold Aw;dsimp only;rw [cA h];dsimp only;rw [if_pos this,List.map_take]
theorem En {caps:List String} {x:String} {tst:Cm Bool} {elt:Cm V} {l:bw} {mi:Cm It} {H H1:Hp} {n:Nat} {ps:List (Int×Int)}
  (hmi:mi ⟨l,H⟩= .ok ⟨ps.map aD,λH=>ay (.ref n) H=some (ps.map aD)⟩ ⟨l,H1⟩) (hn:H1[n]? = some (.list (ps.map aD))) (hlen:ps.length<=1000000)
  (hstep:∀p:Int×Int,bS (a9 x) tst elt (fx caps l) (aD p) H1= .ok (some (.int p.2)) H1) :
  db caps mi (a9 x) tst elt ⟨l,H⟩= .ok (.ref H1.length) ⟨l,H1++[.list ((ps.map (·.2)).map V.int)]⟩:=by
 let ψ : V->Option V:=λv=>match v with | .tup [_,b]=>some b | _=>none
 haveI hc:=iF (g:=λH=>ay (.ref n) H=some (ps.map aD)) (bd:=a9 x) (tst:=tst) (elt:=elt) (lc:=fx caps l) (H:=H1) (cA hn) ψ (ps.map aD) λv hv=>by
  obtain ⟨p,_,rfl⟩:=aag.mp hv
  exact hstep p
 haveI e:(ps.map aD).filterMap ψ = (ps.map (·.2)).map V.int:=by rw [List.filterMap_map,List.map_map,<- List.filterMap_eq_map];rfl
 rw [e] at hc
 exact iG hmi (by simpa using hlen) hc
theorem EL {n:Nat} {ks:List (Int×Int)} {l:bw} {H:Hp} (hn:H[n]? = some (.list (ks.map aD))):d5 (.ref n) ⟨l,H⟩= .ok ⟨ks.map aD,λH=>ay (.ref n) H=some (ks.map aD)⟩ ⟨l,H⟩:=by
 rw [rD,cA hn]
theorem Cc {ri:Nat} {r:Rm}:∀i∈r.dep ri,i∈r.own ri\/i=r.pl\/i=r.m:=λi hi=>by
 unfold Rm.dep at hi
 unfold Rm.own
 simp at hi ⊢
 rcases hi with h | h | h | h | h | h | h
 ·exact .inl (.inl h)
 ·exact .inr (.inl h)
 ·exact .inr (.inr h)
 ·exact .inl (.inr (.inl h))
 ·exact .inl (.inr (.inr (.inl h)))
 ·exact .inl (.inr (.inr (.inr (.inl h))))
 ·exact .inl (.inr (.inr (.inr (.inr h))))
def GL (ri:Nat) (z:Int) (a b c:Nat) (l:bw):Prop:=l "self" = some (.inst "Room" ri)/\l "size" = some (.int z)/\l "stay" = some (.ref b)/\l "moves" = some (.ref c)/\l "pages" = some (.ref a)
theorem GL.upd {ri:Nat} {z:Int} {a b c:Nat} {l:bw} (h:GL ri z a b c l) {x:String} {v:V} (hx:x = "page" \/ x = "slot"):GL ri z a b c (Mine.Lake.upd l x v):=by
 obtain ⟨h1,h2,h3,h4,h5⟩:=h
 rcases hx with rfl | rfl
 ·exact ⟨by simpa [Mine.Lake.upd] using h1,by simpa [Mine.Lake.upd] using h2,by simpa [Mine.Lake.upd] using h3,by simpa [Mine.Lake.upd] using h4,by simpa [Mine.Lake.upd] using h5⟩
 ·exact ⟨by simpa [Mine.Lake.upd] using h1,by simpa [Mine.Lake.upd] using h2,by simpa [Mine.Lake.upd] using h3,by simpa [Mine.Lake.upd] using h4,by simpa [Mine.Lake.upd] using h5⟩
structure GI (H0:Hp) (ri:Nat) (r:Rm) (z:Int) (F0:Vw) (stay zs:List Int) (a b c:Nat) (Mt:List (Int×Int)) (Ft:Vw) (todo:List (Int×Int)) (H:Hp) (r':Rm) (acc:List (Int×Int)):Prop where
 at':aN H ri r'
 ok:r'.Ok
 sm:r.Sm r'
 off:∀x,x∉stay->look r'.ss x=F0 x
 on:∀x∈stay,∃bs,look r'.ss x=some (z,bs)
 mv:EZ r.len z stay (look r'.ss) todo
 m:acc++(f8 r.len z stay (look r'.ss) todo).1=Mt
 f:(f8 r.len z stay (look r'.ss) todo).2=Ft
 hc:H[c]? = some (.list (acc.map aD))
 ha:H[a]? = some (.list (zs.map V.int))
 hb:H[b]? = some (.list (stay.map V.int))
 chg:dp (c::r.own ri) H0 H
 own:r'.own ri=r.own ri
 few:acc.length+todo.length<=50000
structure GA (ri:Nat) (r:Rm) (a b c:Nat):Prop where
 ca:c≠a
 cb:c≠b
 co:c∉r.own ri
 cp:c≠r.pl
 cm:c≠r.m
 ao:a∉r.own ri
 bo:b∉r.own ri
section
variable {H0:Hp} {ri:Nat} {r:Rm} {z:Int} {F0:Vw} {stay zs:List Int} {a b c:Nat} {Mt:List (Int×Int)} {Ft:Vw} (hA:GA ri r a b c) (hst:stay.length<=40)
include hA hst
theorem EG {g:Int} {k:Nat} {todo:List (Int×Int)} {l:bw} {H:Hp} {r':Rm} {acc:List (Int×Int)} (hI:GI H0 ri r z F0 stay zs a b c Mt Ft ((g,(k:Int))::todo) H r' acc) (hl:GL ri z a b c l) (h1:l "page" = some (.int g)) (h2:l "slot" = some (.int k))
  (hg:g∉stay) {bs0:List Bool} (hF:F0 g=some (z,bs0)) (hk:bs0[k]? = some true):∃H' r'' acc',A3 (gS ⟨l,H⟩= .ok .next ⟨l,H'⟩) (GI H0 ri r z F0 stay zs a b c Mt Ft todo H' r'' acc') (dp (c::r.own ri) H H'):=by
 refine oE λG kG=> ?_
 obtain ⟨s,hs,y1,y2⟩:=bn (ss:=r'.ss) (v:=(z,bs0)) (by rw [hI.off g hg];exact hF)
 dsimp only at y1 y2
 obtain ⟨hm,ep⟩:=aW hs
 obtain ⟨l1,l2,l3,l4,l5⟩:=hl
 have hR:=hI.at'
 have hO:=hI.ok
 have hkl:=(aab.mp hk).1
 haveI hbl:=hO.bslen hm
 have hpg:=hO.pg s hm
 haveI hpp:=hO.p
 have elen:r'.len=r.len:=hI.sm.len
 haveI vb:=tU hR (hR.shelf s hm) k ⟨hpg.1,by exact td 0x3e8a09000028a18110912 hpg.2 hpp.2⟩ ⟨by exact cU 0xf0980,by rw [y2] at hbl;exact id (cM 0x3e8a0f90003e8a10110112 hkl hbl)⟩
 rw [ep,y1,elen] at vb
 obtain ⟨hfind,hmv⟩:=hI.mv
 obtain ⟨h,hh⟩:=aaQ.mp hfind
 obtain ⟨v,j,hv,hj⟩:=uL (List.find?_some hh)
 obtain ⟨bsh,hbh⟩:=hI.on h (aaE hh)
 rw [hbh] at hv
 cases hv
 have est:=yj (len:=r.len) (z:=z) (g,(k:Int)) hh hbh hj
 obtain ⟨r2,H2,k1,k2,k3,k4,k5,k6,k7,k8⟩:=GW hR hO (n:=b) (pl:=g*r.len+k*z) hI.hb hI.on hst (λi i1 i2=>by
  obtain ⟨u1,u2,_⟩:=om hO hm (k:=k) (by exact cU 0xf0980) (by rw [y2];exact id (cM 0x1f0f910111 hkl)) i1 (by rw [y1];exact i2)
  rw [ep,y1,elen] at u1 u2
  exact ⟨u1,u2⟩) hh hbh hj
 rw [elen] at k1
 have eo:r'.own ri=r.own ri:=hI.own
 rw [eo] at k6 k7
 have c2:=k6.get hI.hc hA.co
 haveI a2:=k6.get hI.ha hA.ao
 haveI b2:=k6.get hI.hb hA.bo
 have hfew:=hI.few
 rw [aav] at hfew
 have hap:=qu (aD (g*r.len+k*z,h*r.len+j*z)) l H2 c2 (by simp;exact id (cM 0xf4240a0100c350a191c0c011 hfew))
 haveI kd:gm (.ref c) ⟨l,H⟩= .ok true ⟨l,H⟩:=by rw [yt,hI.hc]
 haveI hcl:=(aab.mp c2).1
 have C3:dp [c] H2 (H2.set c (.list (acc.map aD++[aD (g*r.len+k*z,h*r.len+j*z)]))):=dp.set (by simp)
 have em:=hI.m
 have ef:=hI.f
 rw [Bw,est] at em ef
 rw [est] at hmv
 refine kG ⟨_,r2,acc++[(g*r.len+k*z,h*r.len+j*z)],?_,⟨k2.chg C3 λi hi hx=> ?_,k3,hI.sm.trans k4,λx hx=> ?_,λx hx=> ?_,?_,?_,?_,?_,C3.get a2 (by simpa using hA.ca.symm),C3.get b2 (by simpa using hA.cb.symm),?_,k7,?_⟩,?_⟩
 ·exists l1,l2,l3,l4,h1,h2,kd,aH hR (f := "moved") ⟨by decide,by decide,by decide⟩,aH hR (f := "begin") ⟨by decide,by decide,by decide⟩,be hR,cG hR hs,vb,k1,hap
 ·rw [aaj.mp hx] at hi
  rcases Cc c hi with h | h | h
  ·rw [k7] at h;exact hA.co h
  ·rw [(hI.sm.trans k4).pl] at h;exact hA.cp h
  ·rw [(hI.sm.trans k4).m] at h;exact hA.cm h
 ·rw [k5]
  haveI:x≠h:=λe=>hx (e▸aaE hh)
  rw [iE _ _ this]
  exact hI.off x hx
 ·rw [k5]
  by_cases e:x=h
  ·subst e;exact ⟨_,dh _ _ _⟩
  ·rw [iE _ _ e];exact hI.on x hx
 ·rw [k5];exact hmv
 ·rw [k5,aae];exact em
 ·rw [k5];exact ef
 ·rw [aaB hcl];simp
 ·exact (hI.chg.trans (k6.mono λi hi _=> .tail _ hi)).trans (C3.mono λi hi _=>by rw [aaj.mp hi];exact .head _)
 ·simp;exact id (cM 0xc350a1190cc000c350a191c0c011 hfew)
 ·exact (k6.mono λi hi _=> .tail _ hi).trans (C3.mono λi hi _=>by rw [aaj.mp hi];exact .head _)
theorem EF {g:Int} {ys:List Int} {l:bw} {H:Hp} {r':Rm} {acc:List (Int×Int)} (hI:GI H0 ri r z F0 stay zs a b c Mt Ft (df F0 stay (g::ys)) H r' acc) (hl:GL ri z a b c l) (hown:∀i∈c::r.own ri,i<H.length) (hF:∃bs,F0 g=some (z,bs)) :
  ∃l' H' r'' acc',A4 (((a9 "page" (.int g)).b λ_=>fm) ⟨l,H⟩= .ok .next ⟨l',H'⟩) (GI H0 ri r z F0 stay zs a b c Mt Ft (df F0 stay ys) H' r'' acc') (GL ri z a b c l') (dp (c::r.own ri) H H'):=by
 refine oE λG kG=> ?_
 obtain ⟨bs,hF⟩:=hF
 have hl1:=hl.upd (x := "page") (v:= .int g) (.inl rfl)
 have hp1:upd l "page" (.int g) "page" = some (.int g):=lf _ _ _
 refine bz (upd l "page" (.int g)) λl1 el1=> ?_
 rw [el1] at hl1 hp1
 have hin:un (.int g) (.ref b) ⟨l1,H⟩= .ok (decide (g∈stay)) ⟨l1,H⟩:=og (q:=⟨l1,H⟩) hI.hb
 by_cases hg:g∈stay
 ·rw [decide_eq_true hg] at hin
  haveI e:df F0 stay (g::ys)=df F0 stay ys:=by unfold df;rw [aaZ,if_pos hg];rfl
  rw [e] at hI
  refine kG ⟨l1,H,r',acc,?_,hI,hl1,dp.refl _ _⟩
  haveI st1:=hl1.2.2.1
  exists el1,hp1,st1,hin
 ·rw [decide_eq_false hg] at hin
  have e:df F0 stay (g::ys)=(cu 0 bs).map (λk=>(g,k))++df F0 stay ys:=by
   unfold df;rw [aaZ,if_neg hg];unfold zT;rw [hF]
  rw [e] at hI
  obtain ⟨s,hs,y1,y2⟩:=bn (ss:=r'.ss) (v:=(z,bs)) (by rw [hI.off g hg];exact hF)
  dsimp only at y1 y2
  obtain ⟨hm,ep⟩:=aW hs
  have hR:=hI.at'
  have hS:=hR.shelf s hm
  haveI hgo:=FN hS (hI.ok.bslen hm)
  rw [y2] at hgo
  haveI mg:∀l,dI "Shelf" "gone" (.inst "Shelf" s.sh) ⟨l,H⟩= .ok () ⟨l,H⟩:=λl=>cZ hS.ob rfl
  refine bz (H++[O.list ((cu 0 bs).map V.int)]) λH1 e1=> ?_
  rw [e1] at hgo
  have p1:H<+:H1:=⟨_,e1⟩
  have x1:H1[H.length]? = some (.list ((cu 0 bs).map V.int)):=by rw [<- e1];simp
  haveI hI1:GI H0 ri r z F0 stay zs a b c Mt Ft ((cu 0 bs).map (λk=>(g,k))++df F0 stay ys) H1 r' acc :=
   ⟨hI.at'.pre p1,hI.ok,hI.sm,hI.off,hI.on,hI.mv,hI.m,hI.f,aG p1 hI.hc,aG p1 hI.ha,aG p1 hI.hb,hI.chg.trans (dp.pre p1),hI.own,hI.few⟩
  obtain ⟨q',hq,ks,r2,acc2,ek,_,i1,i2,i3,i4,i5⟩:=fU (g:=λH'=>ay (.ref H.length) H'=some ((cu 0 bs).map V.int)) (bd:=a9 "slot") (body:=gS)
   (λrem q=> ∃(ks:List Int) (r':Rm) (acc:List (Int×Int)),rem=ks.map V.int/\(∀k∈ks,k∈cu 0 bs)/\GI H0 ri r z F0 stay zs a b c Mt Ft (ks.map (λk=>(g,k))++df F0 stay ys) q.H r' acc/\GL ri z a b c q.l/\q.l "page" = some (.int g)/\q.H[H.length]? = some (.list ((cu 0 bs).map V.int))/\dp (c::r.own ri) H1 q.H) (λx rem q hq=>by
    obtain ⟨ks,r',acc,e,w1,w2,w3,w4,w5,w6⟩:=hq
    obtain ⟨l,Hq⟩:=q
    dsimp only at w2 w3 w4 w5 w6
    cases ks with
    | nil=>simp at e
    | cons k ks =>
     obtain ⟨rfl,rfl⟩:x= .int k/\rem=ks.map V.int:=by simpa using e
     obtain ⟨j,ej,hj⟩:=iK bs 0 k (w1 k (.head _))
     rw [aa2] at ej
     subst ej
     have w3':=w3.upd (x := "slot") (v:= .int (j:Int)) (.inr rfl)
     obtain ⟨H',r2,acc2,v1,v2,v3⟩:=EG hA hst (l:=upd l "slot" (.int (j:Int))) w2 w3' (ah rfl ∅ w4) (by simp [upd]) hg hF hj
     have x2:=v3.get w5 λhx=>by haveI:=hown _ hx;exact id (cU 0x909600111 this)
     exact ⟨⟨upd l "slot" (.int (j:Int)),H'⟩,by rw [qv,Ak];exact v1,cA x2,ks,r2,acc2,rfl,λk' hk'=>w1 k' (.tail _ hk'),v2,w3',ah rfl ∅ w4,x2,w6.trans v3⟩) _ ⟨l1,H1⟩ ⟨cu 0 bs,r',acc,rfl,λk hk=>hk,hI1,hl1,hp1,x1,dp.refl _ _⟩
  cases ks with
  | cons _ _=>simp at ek
  | nil =>
  obtain ⟨l2,H2⟩:=q'
  refine kG ⟨l2,H2,r2,acc2,?_,i1,i2,(dp.pre p1).trans i5⟩
  haveI st1:=hl1.2.2.1
  haveI se1:=hl1.1
  exists el1,hp1,st1,hin,se1,be hR,cG hR hs,mg,hgo,dt x1
  exact hq
end
theorem vQ {p len z:Int} {F:Vw} (hz:1<=len.fdiv z):0<=dk p len F z:=by
 unfold dk
 haveI:nA ((cP p F z).map (iQ F))=((((cP p F z).map (gh F)).sum:Nat):Int):=vg (gh F) _
 rw [this]
 exact (er (by exact j5 0x1900fce098019811 hz) hz).1
theorem FH {p len z:Int} (hp:p<=40) {F:Vw}:(bU p len F z).length<=40:=by
 rw [oo.length_eq,aai,List.length_take]
 haveI h1:=(kH (p:=p) (F:=F) (z:=z)).length_eq
 rw [aai] at h1
 haveI h2:=vh p hp F z
 exact id (mK 0x28a200201000028a10110213 h1 h2 (Nat.min_le_right _ _))
structure GV (ri:Nat) (z per:Int) (a:Nat) (l:bw):Prop where
 s:l "self" = some (.inst "Room" ri)
 z:l "size" = some (.int z)
 p:l "per" = some (.int per)
 g:l "pages" = some (.ref a)
theorem GV.upd {ri a:Nat} {z per:Int} {l l':bw} {x:String} {v:V} (h:GV ri z per a l) (e:upd l x v=l') (n1 : "self" ≠ x) (n2 : "size" ≠ x) (n3 : "per" ≠ x) (n4 : "pages" ≠ x):GV ri z per a l' :=
 ⟨ah e n1 h.s,ah e n2 h.z,ah e n3 h.p,ah e n4 h.g⟩
def JE (F:Vw) (z:Int) (zs:List Int):Prop:= ∀g∈zs,∃bs,F g=some (z,bs)
inductive G2 (ri:Nat) (z per:Int) (zs:List Int) (l0:bw) (H:Hp):Prop
 | mk (l1 l2:bw) (H1:Hp) (a:Nat) (t1:hZ ⟨l0,H⟩= .ok .next ⟨l1,H⟩) (t2:ml ⟨l1,H⟩= .ok .next ⟨l2,H1⟩) (g:GV ri z per a l2) (p:H<+:H1) (x:H1[a]? = some (.list (zs.map V.int))) (n:H.length<=a)
inductive G3 (ri:Nat) (z per m:Int) (a:Nat) (l:bw) (H:Hp):Prop
 | mk (l':bw) (H':Hp) (t:mn ⟨l,H⟩= .ok .next ⟨l',H'⟩) (g:GV ri z per a l') (m:l' "many" = some (.int m)) (p:H<+:H')
inductive G4 (ri:Nat) (z per m:Int) (a:Nat) (ps:List (Int×Int)) (l:bw) (H:Hp):Prop
 | mk (l':bw) (H':Hp) (n:Nat) (t:mq ⟨l,H⟩= .ok .next ⟨l',H'⟩) (g:GV ri z per a l') (m:l' "many" = some (.int m)) (k:l' "ranks" = some (.ref n)) (p:H<+:H') (x:H'[n]? = some (.list (ps.map aD)))
inductive G6 (ri:Nat) (z per:Int) (a:Nat) (stay:List Int) (l:bw) (H:Hp):Prop
 | mk (l' l'':bw) (H' H'':Hp) (b:Nat) (t5:ic ⟨l,H⟩= .ok .next ⟨l',H'⟩) (t6:ie ⟨l',H'⟩= .ok .next ⟨l'',H''⟩) (g:GL ri z a b H'.length l'') (p:H<+:H'') (x:H''[b]? = some (.list (stay.map V.int))) (y:H''[H'.length]? = some (.list [])) (n:H.length<=b) (n2:b<H'.length) (n3:H'.length<H''.length)
section
variable {H:Hp} {ri:Nat} {r:Rm} (hR:aN H ri r) (hO:r.Ok)
include hR hO
theorem Ih {z:Int} (hzx:z∈r.xs):G2 ri z (r.len.fdiv z) (cP r.p (look r.ss) z) (aF ["self", "size"] [.inst "Room" ri,.int z]) H:=by
 generalize e0:aF ["self", "size"] [.inst "Room" ri,.int z]=l0
 have a1:l0 "self" = some (.inst "Room" ri):=e0▸rfl
 have a2:l0 "size" = some (.int z):=e0▸rfl
 haveI hper:=BB hR hO hzx
 haveI hpm:∀l,dI "Plan" "per" (.inst "Plan" r.pl) ⟨l,H⟩= .ok () ⟨l,H⟩:=λl=>cZ hR.plan (Fk _ _ _)
 generalize el1:upd l0 "per" (.int (r.len.fdiv z))=l1
 haveI t1:hZ ⟨l0,H⟩= .ok .next ⟨l1,H⟩:=by exists a1,a2,du hR,hpm,hper,el1
 have b1:l1 "self" = some (.inst "Room" ri):=ah el1 ∅ a1
 have b2:l1 "size" = some (.int z):=ah el1 ∅ a2
 obtain ⟨a,H1,hof,p1,x1,ha⟩:=vJ hR hO z
 rw [hO.ofSz] at x1
 generalize el2:upd l1 "pages" (.ref a)=l2
 exact ⟨l1,l2,H1,a,t1,(by exists b1,b2,aH hR (f := "of_size") ⟨by decide,by decide,by decide⟩,hof,el2),⟨ah el2 ∅ b1,ah el2 ∅ b2,ah el2 ∅ (aA el1),aA el2⟩,p1,x1,ha⟩
theorem Cl {z g:Int} {bs:List Bool} (hb:look r.ss g=some (z,bs)) (l:bw):∃s H',A4 (d7 r.ss g=some s) (∀l,dI "Shelf" "out" (.inst "Shelf" s.sh) ⟨l,H⟩= .ok () ⟨l,H⟩) (br (bO) [.inst "Shelf" s.sh] ⟨l,H⟩= .ok (.int (iQ (look r.ss) g)) ⟨l,H'⟩) (H<+:H'):=by
 obtain ⟨s,hs,y1,y2⟩:=bn hb
 obtain ⟨mo,co⟩:=uV hR hO (aW hs).1 l
 haveI hE:iQ (look r.ss) g=((s.bs.count true:Nat):Int):=by unfold iQ gh;rw [hb,y2]
 rw [<- hE] at co
 exact ⟨s,_,hs,mo,co,aap _ _⟩
theorem Jp {z per:Int} {a:Nat} {zs:List Int} {l:bw} (hl:GV ri z per a l) (x:H[a]? = some (.list (zs.map V.int))) (hz:zs.length<=40) (hat:JE (look r.ss) z zs):G3 ri z per (nA (zs.map (iQ (look r.ss)))) a l H:=by
 haveI hc:∃H',gX ⟨l,H⟩= .ok (.ref H'.length) ⟨l,H'++[.list (zs.filterMap λg=>some (V.int (iQ (look r.ss) g)))]⟩/\H<+:H':=by
  unfold gX
  refine dY (n:=a) (ks:=zs) ?_ x (aam hz ∅) (λg=>some (V.int (iQ (look r.ss) g))) λg hg Hx hp=> ?_
  ·exists hl.g
   exact dt x
  ·obtain ⟨bs,hb⟩:=hat g hg
   obtain ⟨s,H',hs,mo,co,hp'⟩:=Cl (hR.pre hp) hO hb (upd (fx ["self"] l) "page" (.int g))
   haveI d1:upd (fx ["self"] l) "page" (.int g) "self" = some (.inst "Room" ri):=gc ∅ ∅ hl.s
   exact ⟨_,eE (H2:=Hx) rfl (by exists d1,be (hR.pre hp),cG (hR.pre hp) hs,mo,co),hp'⟩
 obtain ⟨H2,hc,p2⟩:=hc
 generalize e3:H2++[O.list (zs.filterMap λg=>some (V.int (iQ (look r.ss) g)))]=H3 at hc
 haveI x3:H3[H2.length]? = some (.list ((zs.map (iQ (look r.ss))).map V.int)):=by rw [<- e3];simp [Function.comp_def]
 haveI hsum:=Hz (l:=l) x3 (by rw [aai];exact aam hz ∅)
 generalize el:upd l "many" (.int (nA (zs.map (iQ (look r.ss)))))=l3
 exact ⟨l3,H3,(by exists hc,hsum,el),hl.upd el ∅ ∅ ∅ ∅,aA el,p2.trans ⟨_,e3⟩⟩
theorem Jq {z per m:Int} {a:Nat} {l:bw} (hl:GV ri z per a l) (hm:l "many" = some (.int m)) (x:H[a]? = some (.list ((cP r.p (look r.ss) z).map V.int))) (hz:(cP r.p (look r.ss) z).length<=40) (hat:JE (look r.ss) z (cP r.p (look r.ss) z)):G4 ri z per m a (dM r.p (look r.ss) z) l H:=by
 generalize ezs:cP r.p (look r.ss) z=zs at *
 haveI hc:∃H',gY ⟨l,H⟩= .ok (.ref H'.length) ⟨l,H'++[.list (zs.filterMap λg=>some (aD (-iQ (look r.ss) g,g)))]⟩/\H<+:H':=by
  unfold gY
  refine dY (n:=a) (ks:=zs) ?_ x (aam hz ∅) (λg=>some (aD (-iQ (look r.ss) g,g))) λg hg Hx hp=> ?_
  ·exists hl.g
   exact dt x
  ·obtain ⟨bs,hb⟩:=hat g hg
   obtain ⟨s,H',hs,mo,co,hp'⟩:=Cl (hR.pre hp) hO hb (upd (fx ["self"] l) "page" (.int g))
   haveI d1:upd (fx ["self"] l) "page" (.int g) "self" = some (.inst "Room" ri):=gc ∅ ∅ hl.s
   exact ⟨_,eE (H2:=Hx) rfl (by exists d1,be (hR.pre hp),cG (hR.pre hp) hs,mo,co),hp'⟩
 obtain ⟨H4,hc,p4⟩:=hc
 generalize e5:H4++[O.list (zs.filterMap λg=>some (aD (-iQ (look r.ss) g,g)))]=H5 at hc
 haveI x5:H5[H4.length]? = some (.list ((zs.map λg=>(-iQ (look r.ss) g,g)).map aD)):=by rw [<- e5];simp [Function.comp_def]
 haveI hsrt:=nu (l:=l) x5 (by rw [aai];exact Nat.lt_of_le_of_lt hz ∅)
 haveI ernk:kK (zs.map λg=>(-iQ (look r.ss) g,g))=dM r.p (look r.ss) z:=by unfold dM;rw [ezs]
 rw [ernk] at hsrt
 generalize e6:H5++[O.list ((dM r.p (look r.ss) z).map aD)]=H6 at hsrt
 generalize el:upd l "ranks" (.ref H5.length)=l4
 exact ⟨l4,H6,H5.length,(by exists hc,hsrt,el),hl.upd el ∅ ∅ ∅ ∅,ah el ∅ hm,aA el,(p4.trans ⟨_,e5⟩).trans ⟨_,e6⟩,by rw [<- e6];simp⟩
omit hR in
theorem Ii {z:Int} {a n:Nat} {l:bw} (u1:1<=r.len.fdiv z) (hl:GV ri z (r.len.fdiv z) a l) (hm:l "many" = some (.int (nA ((cP r.p (look r.ss) z).map (iQ (look r.ss)))))) (hk:l "ranks" = some (.ref n)) (x:H[n]? = some (.list ((dM r.p (look r.ss) z).map aD))) (hrl:(dM r.p (look r.ss) z).length<=40) :
  G6 ri z (r.len.fdiv z) a (bU r.p r.len (look r.ss) z) l H:=by
 haveI hned:=vQ (p:=r.p) (F:=look r.ss) u1
 haveI htk:=IH (l:=l) x (aam hrl ∅) hned
 haveI ened:(nA ((cP r.p (look r.ss) z).map (iQ (look r.ss)))+r.len.fdiv z-1).fdiv (r.len.fdiv z)=dk r.p r.len (look r.ss) z:=rfl
 haveI esty:eD (((dM r.p (look r.ss) z).take (dk r.p r.len (look r.ss) z).toNat).map (·.2))=bU r.p r.len (look r.ss) z:=rfl
 generalize dk r.p r.len (look r.ss) z=nd at *
 generalize etk:(dM r.p (look r.ss) z).take nd.toNat=tk at *
 have htl:tk.length<=40:=by rw [<- etk,List.length_take];exact aam (Nat.min_le_right _ _) hrl
 generalize e7:H++[O.list (tk.map aD)]=H7 at htk
 have x7:H7[H.length]? = some (.list (tk.map aD)):=by rw [<- e7];simp
 generalize nA ((cP r.p (look r.ss) z).map (iQ (look r.ss)))=m at *
 generalize bU r.p r.len (look r.ss) z=stay at *
 haveI hc3:gZ ⟨l,H⟩= .ok (.ref H7.length) ⟨l,H7++[.list ((tk.map (·.2)).map V.int)]⟩:=by
  unfold gZ
  refine En (n:=H.length) (ps:=tk) ?_ x7 (aam htl ∅) λp=> ?_
  ·haveI dv:∀q,dR (.int (m+r.len.fdiv z-1)) (.int (r.len.fdiv z)) q= .ok (.int nd) q:=λq=>gk (λh=>by rw [h] at u1;exact absurd u1 ∅) ened
   exists hl.p,hm,hk,dv,htk,EL x7
  ·haveI hit:∀q,aR (aD p) (.int 1) q= .ok (.int p.2) q:=λq=>rfl
   exact eE (H2:=H7) rfl (by exists hit)
 generalize e8:H7++[O.list ((tk.map (·.2)).map V.int)]=H8 at hc3
 haveI x8:H8[H7.length]? = some (.list ((tk.map (·.2)).map V.int)):=by rw [<- e8];simp
 haveI hso:=vV (l:=l) x8 (by rw [aai];exact Nat.lt_of_le_of_lt htl ∅)
 rw [esty] at hso
 generalize e9:H8++[O.list (stay.map V.int)]=H9 at hso
 haveI x9:H9[H8.length]? = some (.list (stay.map V.int)):=by rw [<- e9];simp
 generalize el5:upd l "stay" (.ref H8.length)=l5
 haveI t5:ic ⟨l,H⟩= .ok .next ⟨l5,H9⟩:=by exists hc3,hso,el5
 generalize ea:H9++[O.list []]=Ha
 generalize el6:upd l5 "moves" (.ref H9.length)=l6
 haveI t6:ie ⟨l5,H9⟩= .ok .next ⟨l6,Ha⟩:=by exists el6,ea
 haveI g5:=hl.upd el5 ∅ ∅ ∅ ∅
 have g6:=g5.upd el6 ∅ ∅ ∅ ∅
 have q1:H<+:H8:=List.IsPrefix.trans ⟨_,e7⟩ ⟨_,e8⟩
 exact ⟨l5,l6,H9,Ha,H8.length,t5,t6,⟨g6.s,g6.z,ah el6 ∅ (aA el5),aA el6,g6.g⟩,(q1.trans ⟨_,e9⟩).trans ⟨_,ea⟩,aG ⟨_,ea⟩ x9,by rw [<- ea];simp,q1.length_le,by rw [<- e9];simp,by rw [<- ea];simp⟩
end
inductive Gt (Ha:Hp) (ri:Nat) (r:Rm) (z:Int) (F:Vw) (stay zs:List Int) (a b c:Nat) (Mt:List (Int×Int)) (Ft:Vw) (rem:List V) (q:S):Prop
 | mk (ys:List Int) (r':Rm) (acc:List (Int×Int)) (e:rem=ys.map V.int) (w:∀y∈ys,y∈zs) (i:GI Ha ri r z F stay zs a b c Mt Ft (df F stay ys) q.H r' acc) (l:GL ri z a b c q.l)
inductive Gu (H7:Hp) (ri:Nat) (r7:Rm) (z:Int) (Ft:Vw) (stay zs:List Int) (a b c:Nat) (acc:List (Int×Int)) (rem:List V) (q:S):Prop
 | mk (ys:List Int) (e:rem=ys.map V.int) (w:∀y∈ys,y∈zs) (i:HP H7 ri r7 (fF Ft (zs.filter λg => !decide (g∈stay))) (ys.filter λg => !decide (g∈stay)) q) (l:GL ri z a b c q.l) (x:q.H[a]? = some (.list (zs.map V.int))) (y:q.H[b]? = some (.list (stay.map V.int))) (k:q.H[c]? = some (.list (acc.map aD)))
section
variable {Ha:Hp} {ri:Nat} {r:Rm} {z:Int} {F:Vw} {stay zs:List Int} {a b c:Nat} {Mt:List (Int×Int)} {Ft:Vw}
theorem Ij (hA:GA ri r a b c) (hst:stay.length<=40) (hown:∀i∈c::r.own ri,i<Ha.length) (hat:JE F z zs) {x:V} {rem:List V} {q:S} (h:Gt Ha ri r z F stay zs a b c Mt Ft (x::rem) q) :
  ∃q',(a9 "page" x).b (λ_=>fm) q= .ok .next q'/\ay (.ref a) q'.H=some (zs.map V.int)/\Gt Ha ri r z F stay zs a b c Mt Ft rem q':=by
 obtain ⟨l,Hq⟩:=q
 cases h with
 | mk ys r' acc e w1 w2 w3 =>
 cases ys with
 | nil=>simp at e
 | cons g ys =>
  obtain ⟨rfl,rfl⟩:x= .int g/\rem=ys.map V.int:=by simpa using e
  obtain ⟨l',H',r'',acc',v1,v2,v3,v4⟩:=EF hA hst w2 w3 (λi hi=>aa4 (hown i hi) w2.chg.len) (hat g (w1 g (.head _)))
  exact ⟨⟨l',H'⟩,v1,cA v2.ha,ys,r'',acc',rfl,λy hy=>w1 y (.tail _ hy),v2,v3⟩
theorem Ik {H7:Hp} {r7:Rm} {acc:List (Int×Int)} {x:V} {rem:List V} {q:S} (h:Gu H7 ri r7 z Ft stay zs a b c acc (x::rem) q) :
  ∃q',(a9 "page" x).b (λ_=>gU) q= .ok .next q'/\ay (.ref a) q'.H=some (zs.map V.int)/\Gu H7 ri r7 z Ft stay zs a b c acc rem q':=by
 obtain ⟨l,Hq⟩:=q
 cases h with
 | mk ys e w0 w1 w2 w3 w4 w5 =>
 cases ys with
 | nil=>simp at e
 | cons g ys =>
  obtain ⟨rfl,rfl⟩:x= .int g/\rem=ys.map V.int:=by simpa using e
  have hl1:=w2.upd (x := "page") (v:= .int g) (.inl rfl)
  generalize el1:upd l "page" (.int g)=l1 at hl1
  have hp1:l1 "page" = some (.int g):=aA el1
  have hin:un (.int g) (.ref b) ⟨l1,Hq⟩= .ok (decide (g∈stay)) ⟨l1,Hq⟩:=og (q:=⟨l1,Hq⟩) w4
  have st1:=hl1.2.2.1
  by_cases hg:g∈stay
  ·rw [decide_eq_true hg] at hin
   rw [aaP (by simp [hg])] at w1
   exact ⟨⟨l1,Hq⟩,(by exists el1,hp1,st1,hin),cA w3,ys,rfl,λy hy=>w0 y (.tail _ hy),w1,hl1,w3,w4,w5⟩
  ·rw [decide_eq_false hg] at hin
   rw [aaO (by simp [hg])] at w1
   haveI w1':HP H7 ri r7 (fF Ft (zs.filter λg => !decide (g∈stay))) (g::ys.filter λg => !decide (g∈stay)) ⟨l1,Hq⟩:=w1
   obtain ⟨v,H',k1,k2,k3,k4,k5⟩:=w1'.pop
   obtain ⟨rp,hrp,_,hrsm,_⟩:=w1
   have hne:∀ {i:Nat} {xs:List V},Hq[i]? = some (.list xs)->i∉[r7.d]:=λ{i xs} hi hm=>by
    rw [aaj.mp hm,<- hrsm.d,hrp.racks] at hi;cases hi
   haveI se1:=hl1.1
   exact ⟨⟨l1,H'⟩,(by exists el1,hp1,se1,st1,hin,k4,k1,k2),cA (k5.get w3 (hne w3)),ys,rfl,λy hy=>w0 y (.tail _ hy),k3 _,hl1,k5.get w3 (hne w3),k5.get w4 (hne w4),k5.get w5 (hne w5)⟩
end
section
variable {H:Hp} {ri:Nat} {r:Rm} (hR:aN H ri r) (hO:r.Ok)
include hR hO
theorem AB {z:Int} (hzx:z∈r.xs):∃n r' H',Kn (dZ [.inst "Room" ri,.int z] H= .ok (.ref n) H') (H.length<=n) (H'[n]? = some (.list ((Ig r.p r.len (look r.ss) z).map aD))) (aN H' ri r') r'.Ok (r.Sm r') (look r'.ss=Jo r.p r.len (look r.ss) z) (dp (r.own ri) H H') (∀i∈r'.own ri,i∈r.own ri) ((Ig r.p r.len (look r.ss) z).length<=50000):=by
 refine oE λG kG=> ?_
 obtain ⟨u1,u2⟩:=rA hR hO hzx
 have hp40:=hO.p.2
 have hat:JE (look r.ss) z (cP r.p (look r.ss) z):=λg hg=>AQ hg
 haveI hslots:∀g v,look r.ss g=some v->v.1=z->(v.2.length:Int)=r.len.fdiv z:=λg v hv hz=>by
  obtain ⟨s,hs,y1,y2⟩:=bn hv
  rw [<- y2,<- hz,<- y1]
  exact hO.slots s (aW hs).1
 haveI hokk:=EE (p:=r.p) hslots u1
 have hzl:=vh r.p hp40 (look r.ss) z
 have hrl:(dM r.p (look r.ss) z).length<=40:=by
  haveI h1:=(kH (p:=r.p) (F:=look r.ss) (z:=z)).length_eq
  rw [aai] at h1;exact aam (Nat.le_of_eq h1) hzl
 haveI hstl:=FH (len:=r.len) (z:=z) hp40 (F:=look r.ss)
 haveI hstin:∀g∈bU r.p r.len (look r.ss) z,g∈cP r.p (look r.ss) z:=λg hg=>tT hg
 cases Ih hR hO hzx with
 | mk l1 l2 H1 a t1 t2 g2 p1 x1 ha =>
 cases Jp (hR.pre p1) hO g2 x1 hzl hat with
 | mk l3 H3 t3 g3 m3 p3 =>
 cases Jq (hR.pre (p1.trans p3)) hO g3 m3 (aG p3 x1) hzl hat with
 | mk l4 H6 n4 t4 g4 m4 k4 p4 x4 =>
 cases Ii hO u1 g4 m4 k4 x4 hrl with
 | mk l5 l6 H9 Ha b t5 t6 gl p6 xb xc nb nc na =>
 have P1a:H1<+:Ha:=(p3.trans p4).trans p6
 have P0a:H<+:Ha:=p1.trans P1a
 have xa:=aG P1a x1
 have aH1:a<H1.length:=(aab.mp x1).1
 have lt4:H1.length<=H6.length:=(p3.trans p4).length_le
 have l01:=p1.length_le
 have olt:=Bz hR
 haveI plt:=(aab.mp hR.plan).1
 haveI mlt:=(aab.mp hR.sizes).1
 haveI hA:GA ri r a b H9.length:=⟨by exact λx9=>Bx 0x9096322104014311211110015 nb nc aH1 lt4 x9,by exact λx9=>cM 0x9096012110112 nc x9,λh=>by haveI:=olt _ h;exact id (hH [_,_,_,_,_,_] [] 0x90960411250151114311320110016 ha nb nc aH1 lt4 this),by exact λx9=>hH [_,_,_,_,_,_,_] [] 0x909664210611250151114311320110017 ha nb nc aH1 lt4 plt x9,by exact λx9=>hH [_,_,_,_,_,_,_] [] 0x909664210611250151114311320110017 ha nb nc aH1 lt4 mlt x9,λh=>by haveI:=olt _ h;exact id (cM 0x9096011110012 ha this),λh=>by haveI:=olt _ h;exact id (Bx 0x9096031124014111320110015 ha nb aH1 lt4 this)⟩
 haveI hown:∀i∈H9.length::r.own ri,i<Ha.length:=λi hi=>by
  rcases aal.mp hi with rfl | hi
  ·exact na
  ·haveI:=olt i hi;exact id (hH [_,_,_,_,_,_,_] [] 0x3615611450104013211211110016 nb nc na lt4 l01 this)
 haveI hits:(df (look r.ss) (bU r.p r.len (look r.ss) z) (cP r.p (look r.ss) z)).length<=(cP r.p (look r.ss) z).length*1000:=EP _ _ 1000 (λg=>by
  unfold gh
  split
  ·rename_i v hv
   obtain ⟨s,hs,_,y2⟩:=bn hv
   rw [<- y2]
   exact aam List.count_le_length (hO.bslen (aW hs).1)
  ·exact Nat.zero_le _) _
 haveI eGM:Ig r.p r.len (look r.ss) z=(f8 r.len z (bU r.p r.len (look r.ss) z) (look r.ss) (df (look r.ss) (bU r.p r.len (look r.ss) z) (cP r.p (look r.ss) z))).1:=rfl
 haveI eGF:Jo r.p r.len (look r.ss) z=fF (f8 r.len z (bU r.p r.len (look r.ss) z) (look r.ss) (df (look r.ss) (bU r.p r.len (look r.ss) z) (cP r.p (look r.ss) z))).2 ((cP r.p (look r.ss) z).filter λg => !decide (g∈bU r.p r.len (look r.ss) z)):=rfl
 haveI zn:(cP r.p (look r.ss) z).Nodup:=qS
 rw [eGM,eGF] at kG
 generalize bU r.p r.len (look r.ss) z=stay at *
 generalize cP r.p (look r.ss) z=zs at *
 generalize eM:(f8 r.len z stay (look r.ss) (df (look r.ss) stay zs)).1=Mt at *
 generalize eFt:(f8 r.len z stay (look r.ss) (df (look r.ss) stay zs)).2=Ft at *
 haveI gi0:GI Ha ri r z (look r.ss) stay zs a b H9.length Mt Ft (df (look r.ss) stay zs) Ha r [] :=
  ⟨hR.pre P0a,hO,Rm.Sm.rfl r,λx _=>rfl,λx hx=>hat x (hstin x hx),hokk,eM,eFt,xc,xa,xb,dp.refl _ _,rfl,by simp;exact aam hits (aam (Nat.mul_le_mul_right 1000 hzl) ∅)⟩
 obtain ⟨q7,hq7,gt7⟩:=fU (g:=λH'=>ay (.ref a) H'=some (zs.map V.int)) (bd:=a9 "page") (body:=fm) (Gt Ha ri r z (look r.ss) stay zs a b H9.length Mt Ft) (λx rem q h=>Ij hA hstl hown hat h) _ ⟨l6,Ha⟩ ⟨zs,r,[],rfl,λy hy=>hy,gi0,gl⟩
 obtain ⟨l7,H7⟩:=q7
 cases gt7 with
 | mk ys r7 acc ey _ gi7 gl7 =>
 cases ys with
 | cons _ _=>simp at ey
 | nil =>
 haveI t7:mw ⟨l6,Ha⟩= .ok .next ⟨l7,H7⟩:=bq (bq (g_get gl.2.2.2.2) (dt xa)) hq7
 have em:acc=Mt:=by haveI:=gi7.m;simpa [df,xo] using this
 haveI ef:look r7.ss=Ft:=by haveI:=gi7.f;simpa [df,xo] using this
 obtain ⟨q8,hq8,gu8⟩:=fU (g:=λH'=>ay (.ref a) H'=some (zs.map V.int)) (bd:=a9 "page") (body:=gU) (Gu H7 ri r7 z Ft stay zs a b H9.length acc) (λx rem q h=>Ik h) _ ⟨l7,H7⟩ ⟨zs,rfl,λy hy=>hy,⟨r7,gi7.at',gi7.ok,Rm.Sm.rfl r7,by rw [ef],zn.filter _,λg hg=>by
    obtain ⟨h1,h2⟩:=aaF.mp hg
    obtain ⟨bs,hb⟩:=hat g h1
    exact ⟨_,by rw [gi7.off g (by simpa using h2)];exact hb⟩,dp.refl _ _,λi hi=>hi,rfl⟩,gl7,gi7.ha,gi7.hb,gi7.hc⟩
 obtain ⟨l8,H8⟩:=q8
 cases gu8 with
 | mk ys8 ey8 _ pp8 gl8 z1 z2 z3 =>
 cases ys8 with
 | cons _ _=>simp at ey8
 | nil =>
 obtain ⟨r8,g1,g2,g3,g4,_,_,g7,g8,_⟩:=pp8
 rw [List.filter_nil,uW] at g4
 haveI t8:mx ⟨l7,H7⟩= .ok .next ⟨l8,H8⟩:=bq (bq (g_get gl7.2.2.2.2) (dt gi7.ha)) hq8
 haveI few:=gi7.few
 refine kG ⟨H9.length,r8,H8,aU (m:=jZ) (q:=⟨l8,H8⟩) rfl (ai t1 (ai t2 (ai t3 (ai t4 (ai t5 (ai t6 (ai t7 (ai t8 (bq (g_get gl8.2.2.2.1) rfl))))))))),by exact Bx 0x24034010301211110014 nb nc lt4 l01,em▸z3,g1,g2,gi7.sm.trans g3,g4,?_,λi hi=>gi7.own▸g8 i hi,by rw [<- em];exact id (cM 0xc350a0000c350a10c011 few)⟩
 haveI h1:dp (r.own ri) H H7:=(dp.pre P0a).trans' gi7.chg λi hi=>by
  rcases aal.mp hi with rfl | hi
  ·exact .inr (by exact Bx 0x24034010301211110014 nb nc lt4 l01)
  ·exact .inl hi
 exact h1.trans (by rw [gi7.own] at g7;exact g7)
end
theorem xm {H:Hp} {za:Nat} {xs:List Int} (hz:H[za]? = some (.list (xs.map V.int))) (w:Int):fg [.ref za,.int w] H= .ok (.int ((xs.find? λx=>decide (x>=w)).getD 0)) H:=by
 obtain ⟨l0,e0,a1,a2⟩:∃l0,aF ["_law_sizes", "_law_wish"] [.ref za,.int w]=l0/\l0 "_law_sizes" = some (.ref za)/\l0 "_law_wish" = some (.int w):=⟨_,rfl,rfl,rfl⟩
 have hit:ay (.ref za) H=some (xs.map V.int):=cA hz
 obtain ⟨l',hw',hl⟩:=nR H (g:=λH=>ay (.ref za) H=some (xs.map V.int)) (x := "_law_size") (w := "_law_wish") ∅ (body:=gW) w hit
  (λl y h1 h2=>by
   by_cases hy:y>=w
   ·rw [if_pos hy];exact bq (bq (g_get h1) (bq (g_get h2) rfl)) (it_t (decide_eq_true hy) (bq (g_get h1) rfl))
   ·rw [if_neg hy];exact bq (bq (g_get h1) (bq (g_get h2) rfl)) (it_f (decide_eq_false hy) rfl)) xs l0 a2
 have s2:mD ⟨l0,H⟩=dS (λH=>ay (.ref za) H=some (xs.map V.int)) (a9 "_law_size") (gW) (xs.map V.int) ⟨l0,H⟩ :=
  bq (bq (g_get a1) (by rw [rD,hit])) rfl
 rw [hl] at s2
 cases hf:xs.find? (λx=>decide (x>=w)) with
 | some y =>
  rw [hf] at s2
  exact aU (m:=j3) (q:=⟨l',H⟩) rfl (by rw [e0];exact bB s2)
 | none =>
  rw [hf] at s2
  exact aU (m:=j3) (q:=⟨l',H⟩) rfl (by rw [e0];exact ai s2 rfl)
theorem Et {p:Int} {F:Vw} {g:Int} (h:g∈mF p F):(0<=g/\g<p)/\ ∃v,F g=some v:=by
 have:=(aaF.mp h).1
 exact ⟨(iY.mp this).1,iX this⟩
theorem Eg {p:Int} {F:Vw} {g:Int} (h:g∈pZ p F):(0<=g/\g<p)/\F g=none:=by
 obtain ⟨h1,h2⟩:=aaF.mp h
 exact ⟨qW.mp h1,by simpa using h2⟩
theorem oB (F:Vw) (g:Int) (v w:Option (Int×List Bool)):dq (dq F g v) g w=dq F g w:=by
 funext x
 by_cases e:x=g<;>simp [dq,e]
theorem DD (F:Vw) (g:Int) (l:List Int):dq (fF F l) g none=fF F (g::l):=by
 funext x
 unfold fF dq
 by_cases h1:x=g<;>simp [h1]
theorem EQ (F:Vw) (stay:List Int):∀zs:List Int,df F stay zs=(zs.filter λg => !decide (g∈stay)).flatMap (zT F)
 | []=>rfl
 | g::zs=>by
  haveI ih:=EQ F stay zs
  unfold df at ih ⊢
  rw [aaZ,ih]
  by_cases h:g∈stay
  ·rw [if_pos h,aaP (by simp [h])];rfl
  ·rw [if_neg h,aaO (by simp [h]),aaZ]
inductive Pl:V->Prop
 | int (i:Int):Pl (.int i)
 | tup (is:List Int):Pl (.tup (is.map V.int))
noncomputable def Eo:V->PyData
 | .int i=> .int i
 | _=> .none
noncomputable def s9:V->PyData
 | .int i=> .int i
 | .tup vs=> .tuple (vs.map Eo)
 | _=> .none
theorem qZ (is:List Int):(is.map V.int).map Eo=is.map PyData.int:=by rw [List.map_map];rfl
theorem Pl.toD {v:V} (h:Pl v) (H:Hp) (n:Nat):Mine.Lake.toD H (n+2) v=some (s9 v):=by
 cases h with
 | int i=>rfl
 | tup is =>
  show (dX (Mine.Lake.toD H (n+1)) (is.map V.int)).map PyData.tuple=some (.tuple ((is.map V.int).map Eo))
  rw [qP,qZ];rfl
theorem Pl.sh {v:V} (h:Pl v):Sh 1 (s9 v):=by
 cases h with
 | int i=>exact u8 _ i
 | tup is =>
  refine vc λd hd=> ?_
  rw [qZ] at hd
  obtain ⟨i,_,rfl⟩:=aag.mp hd
  exact u8 _ _
theorem Pl.eqv {v:V} (h:Pl v):PyData.eqv (s9 v) (s9 v)=true:=by
 cases h with
 | int i=>exact (nY i i).trans (decide_eq_true rfl)
 | tup is =>
  show PyData.eqv (.tuple ((is.map V.int).map Eo)) (.tuple ((is.map V.int).map Eo))=true
  rw [qZ]
  rw [xX,pB PyData.int nY];exact decide_eq_true rfl
theorem rB {H:Hp} {n:Nat}:∀ {vs:List V},(∀v∈vs,Pl v)->dX (toD H (n+2)) vs=some (vs.map s9)
 | [],_=>rfl
 | v::vs,h=>by rw [rn,(h v (.head _)).toD H n,rB λv hv=>h v (.tail _ hv)];rfl
theorem Fi:∀ {vs:List V},(∀v∈vs,Pl v)->PyData.eqvAll (vs.map s9) (vs.map s9)=true
 | [],_=>rfl
 | v::vs,h=>by rw [aas,gL,(h v (.head _)).eqv,Fi λv hv=>h v (.tail _ hv)];rfl
structure Rf (H:Hp) (a b:Nat) (vs:List V):Prop where
 a:H[a]? = some (.list vs)
 b:H[b]? = some (.list vs)
 pl:∀v∈vs,Pl v
theorem oA {H:Hp} {n i:Nat} {xs:List V} {ds:List PyData} (h:H[i]? = some (.list xs)) (hd:dX (toD H n) xs=some ds):toD H (n+1) (.ref i)=some (.list ds):=by
 show (match H[i]? with | some (.list xs)=>(dX (toD H n) xs).map PyData.list | _=>none)=_
 rw [h];dsimp only;rw [hd];rfl
theorem u9 {vs:List V} (h:∀v∈vs,Pl v):Sh 2 (.list (vs.map s9)):=yF λd hd=>by
 obtain ⟨v,hv,rfl⟩:=aag.mp hd
 exact (h v hv).sh
theorem xW {vs:List V} (h:∀v∈vs,Pl v):PyData.eqv (.list (vs.map s9)) (.list (vs.map s9))=true:=by
 exact Fi h
theorem Hm {H:Hp} {l:bw} {v w:V} {d:PyData} (h1:toD H 8 v=some d) (h2:toD H 8 w=some d) {n:Nat} (h3:Sh n d) (hn:n<=64) (h4:PyData.eqv d d=true):ko v w ⟨l,H⟩= .ok true ⟨l,H⟩:=by
 unfold ko D4;rw [h1,h2,aaR,aaR,h3.shaped hn,h4];rfl
theorem Jn {H:Hp} {l:bw} {a b:Nat} {vs:List V} (h:Rf H a b vs):ko (.ref a) (.ref b) ⟨l,H⟩= .ok true ⟨l,H⟩ :=
 Hm (oA h.a (rB h.pl)) (oA h.b (rB h.pl)) (u9 h.pl) ∅ (xW h.pl)
theorem cj {H:Hp} {i:Nat} {o:O} (h:H[i]? = some o):i<H.length:=(aab.mp h).1
structure F7 (c:Nat) (col:Nat->Nat) (F:List Nat) (H:Hp) (col':Nat->Nat) (H':Hp):Prop where
 chg:dp F H H'
 on:∀i∈F,i<H.length->col i=c
 col:∀i,i<H.length->col' i=col i
noncomputable def jf (col:Nat->Nat) (n c:Nat) (O:List Nat):Nat->Nat:=λi=>if i<n then col i else if i∈O then c else 0
theorem jg {col:Nat->Nat} {n c:Nat} {O:List Nat} {i:Nat} (h:i<n):jf col n c O i=col i:=if_pos h
theorem Am {col:Nat->Nat} {n c:Nat} {O:List Nat} {i:Nat} (h:¬i<n) (hO:i∈O):jf col n c O i=c:=(if_neg h).trans (if_pos hO)
theorem F7.get {c:Nat} {col col':Nat->Nat} {F:List Nat} {H H':Hp} (e:F7 c col F H col' H') {i:Nat} {o:O} (h:H[i]? = some o) (hn:col i≠c):H'[i]? = some o/\col' i=col i :=
 ⟨e.chg.get h λhi=>hn (e.on i hi (cj h)),e.col i (cj h)⟩
structure RG (c:Nat) (col:Nat->Nat) (H:Hp) (p len:Int) (xs:List Int) (ri:Nat) (r:Rm):Prop where
 rm:aN H ri r
 ok:r.Ok
 rp:r.p=p
 rl:r.len=len
 rx:r.xs=xs
 cr:∀i∈r.own ri,col i=c
 cp:col r.pl=0
 cs:col r.m=0
section
variable {c c':Nat} {col col':Nat->Nat} {F:List Nat} {H H':Hp} {p len:Int} {xs:List Int} {ri d k:Nat} {r:Rm} {ms:List bG} {ks:List (Nat×Nat)}
theorem RG.frame (h:RG c col H p len xs ri r) (e:F7 c' col F H col' H') (h1:c≠c') (h2:0≠c'):RG c col' H' p len xs ri r:=by
 have pl:=cj h.rm.plan
 have m:=cj h.rm.sizes
 have nF:∀ {i},i<H.length->col i≠c'->i∉F:=λhi hn hF=>hn (e.on _ hF hi)
 refine ⟨h.rm.chg e.chg λi hi=> ?_,h.ok,h.rp,h.rl,h.rx,λi hi=>(e.col i (Bz h.rm i hi)).trans (h.cr i hi),(e.col _ pl).trans h.cp,(e.col _ m).trans h.cs⟩
 rcases Cc i hi with hi | hi | hi
 ·exact nF (Bz h.rm i hi) (by rw [h.cr i hi];exact h1)
 ·rw [hi];exact nF pl (by rw [h.cp];exact h2)
 ·rw [hi];exact nF m (by rw [h.cs];exact h2)
theorem RG.step (h:RG c col H p len xs ri r) {r':Rm} (a:aN H' ri r') (ok:r'.Ok) (sm:r.Sm r') (ch:dp (r.own ri) H H') (ow:∀i∈r'.own ri,i∈r.own ri\/H.length<=i) :
  RG c (jf col H.length c (r'.own ri)) H' p len xs ri r'/\F7 c col (r.own ri) H (jf col H.length c (r'.own ri)) H':=by
 refine ⟨⟨a,ok,sm.p.trans h.rp,sm.len.trans h.rl,sm.xs.trans h.rx,λi hi=> ?_,?_,?_⟩,⟨ch,λi hi _=>h.cr i hi,λi hi=>jg hi⟩⟩
 ·by_cases hl:i<H.length
  ·rw [jg hl]
   exact (ow i hi).elim (h.cr i) λh=>absurd hl (Nat.not_lt.mpr h)
  ·exact Am hl hi
 ·rw [sm.pl,jg (cj h.rm.plan)];exact h.cp
 ·rw [sm.m,jg (cj h.rm.sizes)];exact h.cs
structure y0 (c:Nat) (col:Nat->Nat) (H:Hp) (col':Nat->Nat) (H':Hp):Prop where
 len:H.length<=H'.length
 same:∀i,i<H.length->col i<c\/c+3<=col i->H'[i]? = H[i]?
 col:∀i,i<H.length->col' i=col i
theorem y0.refl (c:Nat) (col:Nat->Nat) (H:Hp):y0 c col H col H:=⟨aaD _,λ_ _ _=>rfl,λ_ _=>rfl⟩
theorem y0.trans {col2:Nat->Nat} {H2:Hp} (a:y0 c col H col' H') (b:y0 c col' H' col2 H2):y0 c col H col2 H2 :=
 ⟨aam a.len b.len,λi hi h=>(b.same i (aa4 hi a.len) (by rw [a.col i hi];exact h)).trans (a.same i hi h),λi hi=>(b.col i (aa4 hi a.len)).trans (a.col i hi)⟩
theorem F7.evo (e:F7 c' col F H col' H') (h:c<=c'/\c'<c+3):y0 c col H col' H' :=
 ⟨e.chg.len,λi hi ho=>e.chg.same i hi λhF=>by have:=e.on i hF hi;exact ho.elim (λq=>absurd q (Nat.not_lt.mpr (this▸h.1))) λq=>absurd h.2 (Nat.not_lt.mpr (this▸q)),e.col⟩
theorem y0.get (e:y0 c col H col' H') (h1:1<=c) {i:Nat} {o:O} (h:H[i]? = some o) (hn:col i=0):H'[i]? = some o/\col' i=0 :=
 ⟨(e.same i (cj h) (.inl (by rw [hn];exact h1))).trans h,(e.col i (cj h)).trans hn⟩
end
theorem Ho {m:Cm Fl} {sel:String->Cm Fl} {q q':S} {f:Fl} (h:m q= .ok f q'):Az m sel q= .ok f q':=by rw [HA,h]
theorem xY {m:Cm Fl} {sel:String->Cm Fl} {q q' q2:S} {f:Fl} {c:String} (h:m q= .exc c q') (k:sel c q'= .ok f q2):Az m sel q= .ok f q2:=by rw [HA,h];dsimp only;rw [k]
theorem dL {H:Hp} {l:bw} {n:Nat} {vs:List V} {i:Int} {v:V} (h:H[n]? = some (.list vs)) (h0:0<=i) (h1:i<1000000) (hv:vs[i.toNat]? = some v):aR (.ref n) (.int i) ⟨l,H⟩= .ok v ⟨l,H⟩:=by
 exact EM h ⟨h0,h1⟩ hv
theorem GH (e:Int×Int):Pl (aD e):= .tup [e.1,e.2]
theorem uO (es:List (Int×Int)):∀v∈es.map aD,Pl v:=λv hv=>by
 obtain ⟨e,_,rfl⟩:=aag.mp hv
 exact GH e
theorem wU {H:Hp} {l:bw} {n:Nat} {vs:List V} (h:H[n]? = some (.list vs)) (hp:∀v∈vs,Pl v):ko (.ref n) (.ref H.length) ⟨l,H++[.list []]⟩= .ok vs.isEmpty ⟨l,H++[.list []]⟩:=by
 have t1:=oA (aG (H':=H++[.list []]) ⟨_,rfl⟩ h) (rB (n:=5) hp)
 haveI t2:toD (H++[.list []]) 8 (.ref H.length)=some (.list []):=oA (aY _ _) rfl
 haveI t3:=(u9 (vs:=[]) (λ_ h=>(nomatch h))).shaped ∅
 rw [List.map_nil] at t3
 unfold ko D4;rw [t1,t2,aaR,aaR,(u9 hp).shaped ∅,t3]
 cases vs with
 | nil=>rfl
 | cons v vs=>rfl
theorem lS {p len:Int} {F:Vw} {e:Int×Int} (h:e∈b7 p len F):∃(g z:Int) (bs:List Bool) (j:Nat),A3 (F g=some (z,bs)) (bs[j]? = some true) (e=(g*len+j*z,z)):=by
 obtain ⟨g,_,he⟩:=List.mem_flatMap.mp h
 unfold dP at he
 split at he
 ·rename_i v hv
  obtain ⟨kk,hk,rfl⟩:=aag.mp he
  obtain ⟨j,rfl,hj⟩:=iK v.2 0 kk hk
  exact ⟨g,v.1,v.2,j,hv,hj,by rw [aa2]⟩
 ·cases he
section
variable {c:Nat} {col:Nat->Nat} {H:Hp} {p len cell more:Int} {xs:List Int} {ri d k za:Nat} {r:Rm} {ms:List bG} {ks:List (Nat×Nat)} {l:bw}
theorem ug {ss:List bG} {g z:Int} {bs:List Bool} (h:look ss g=some (z,bs)):∃s,A3 (d7 ss g=some s) (s.sz=z) (s.bs=bs):=bn h
end
theorem rj {H:Hp} {l:bw} {i:Nat} {vs:List V} (h:H[i]? = some (.list vs)):gm (.ref i) ⟨l,H⟩= .ok true ⟨l,H⟩:=by rw [yt,h]
theorem uz:∀ {xs:List Int} {a b:Int},xs.Pairwise (· < ·)->(∀x∈xs,a<x/\x<=b)->a<=b->(xs.length:Int)<=b-a
 | [],a,b,_,_,h=>by simp only [List.length_nil];exact id (td 0x1e09f810811 h)
 | x::xs,a,b,hp,h,_=>by
  obtain ⟨h1,h2⟩:=aaM.mp hp
  have hx:=h x (.head _)
  haveI:=uz (a:=x) (b:=b) h2 (λy hy=>⟨h1 y hy,(h y (.tail _ hy)).2⟩) hx.2
  rw [aav];exact id (hH [_] [_,_,_] 0x2e190cf812e0f8110912 hx.1 this)
theorem pJ {n:Nat} {vs:List V} {l:bw} {H:Hp} (hn:H[n]? = some (.list vs)):d5 (.ref n) ⟨l,H⟩= .ok ⟨vs,λH=>ay (.ref n) H=some vs⟩ ⟨l,H⟩:=by
 show (match ay (.ref n) H with | some xs=>_ | none=>_)=_
 rw [show ay (.ref n) H=some vs from cA hn]
theorem fW {n:Nat} {vs:List V} {H:Hp} (hn:H[n]? = some (.list vs)):ay (.ref n) H=some vs:=cA hn
section
variable {c:Nat} {col:Nat->Nat} {H:Hp} {p len:Int} {xs:List Int} {ri d k za:Nat} {r:Rm} {ms:List bG} {ks:List (Nat×Nat)} {l:bw}
theorem IE (F:Vw) (gs:List Int):∀v∈gs.filterMap (rH F),Pl v:=λv hv=>by
 obtain ⟨g,_,hg⟩:=List.mem_filterMap.mp hv
 unfold rH at hg
 split at hg
 ·rename_i w _
  cases hg;exact .tup [g,w.1,_]
 ·cases hg
theorem GG (gs:List Int):∀v∈gs.map V.int,Pl v:=λv hv=>by
 obtain ⟨g,_,rfl⟩:=aag.mp hv
 exact .int g
end
structure PB (f s p len:Int) (l:bw):Prop where
 hp:1<=p/\p<=40
 hl:1<=len/\len<=60
 a:l "_law_script" = some .scr
 f:l "_law_first" = some (.int f)
 s:l "_law_second" = some (.int s)
 p:l "_law_pages" = some (.int p)
 n:l "_law_length" = some (.int len)
noncomputable def J9 (e a b:Int):Cm Fl:=(((((af "_law_first").b λv23=>(Cm.p (V.int 6)).b λv24=>dR v23 v24).b λv25=>(Cm.p (V.int 8)).b λv26=>bD v25 v26).b λv27=>(Cm.p (V.int e)).b λv28=>(dE .Eq v27 v28).b λx29=>Cm.p x29).b λb42=>if b42 then (aw (((Cm.p (V.int 1)).b λv34=>(((af "_law_first").b λv30=>(Cm.p (V.int 48)).b λv31=>dR v30 v31).b λv32=>(Cm.p (V.int a)).b λv33=>bD v32 v33).b λv35=>cS v34 v35).b λv36=>(a9 "_law_pages" v36).b λ_=>Cm.p Fl.next) (((Cm.p (V.int 1)).b λv39=>((af "_law_second").b λv37=>(Cm.p (V.int b)).b λv38=>bD v37 v38).b λv40=>cS v39 v40).b λv41=>(a9 "_law_length" v41).b λ_=>Cm.p Fl.next)) else (Cm.p Fl.next))
theorem Fb {f s p len:Int} {l:bw} {H:Hp} (h:PB f s p len l) (e a b:Int) (ha:1<=a/\a<=40) (hb:1<=b/\b<=60):∃p' len' l',J9 e a b ⟨l,H⟩= .ok .next ⟨l',H⟩/\PB f s p' len' l':=by
 refine oE λG kG=> ?_
 have d6:∀q,dR (.int f) (.int 6) q= .ok (.int (f.fdiv 6)) q:=λq=>gk ∅ rfl
 have m8:∀q,bD (.int (f.fdiv 6)) (.int 8) q= .ok (.int ((f.fdiv 6).fmod 8)) q:=λq=>cW ∅ rfl
 by_cases he:(f.fdiv 6).fmod 8=e
 ·haveI k:decide ((f.fdiv 6).fmod 8=e)=true:=decide_eq_true he
  haveI d48:∀q,dR (.int f) (.int 48) q= .ok (.int (f.fdiv 48)) q:=λq=>gk ∅ rfl
  haveI ma:∀q,bD (.int (f.fdiv 48)) (.int a) q= .ok (.int ((f.fdiv 48).fmod a)) q:=λq=>cW (by exact λx9=>bQ 0x9096090a1019812 ha.1 x9) rfl
  haveI mb:∀q,bD (.int s) (.int b) q= .ok (.int (s.fmod b)) q:=λq=>cW (by exact λx9=>bQ 0x9096090a1019812 hb.1 x9) rfl
  have r1:=bj (f.fdiv 48) a (by exact bQ 0x99019811 ha.1)
  have r2:=bj s b (by exact bQ 0x99019811 hb.1)
  refine bz (upd l "_law_pages" (.int (1+(f.fdiv 48).fmod a))) λl1 e1=> ?_
  refine bz (upd l1 "_law_length" (.int (1+s.fmod b))) λl2 e2=> ?_
  have b3:=ah e1 ∅ h.s
  refine kG ⟨_,_,l2,bq (a:=true) (q':=⟨l,H⟩) ?_ (it_t rfl (ai (q':=⟨l1,H⟩) ?_ ?_)),⟨⟨by exact bQ 0x19c198009811 r1.1,by exact td 0x28a119c80191000028a0812 ha.2 r1.2⟩,⟨by exact bQ 0x19c198009811 r2.1,by exact td 0x3ca119c8019100003ca0812 hb.2 r2.2⟩,ah e2 ∅ (ah e1 ∅ h.a),ah e2 ∅ (ah e1 ∅ h.f),ah e2 ∅ b3,ah e2 ∅ (aA e1),aA e2⟩⟩
  ·exists h.f,d6,m8,k
  ·exists h.f,d48,ma,e1
  ·exists b3,mb,e2
 ·haveI k:decide ((f.fdiv 6).fmod 8=e)=false:=decide_eq_false he
  refine kG ⟨p,len,l,bq (a:=false) (q':=⟨l,H⟩) ?_ (it_f rfl rfl),h⟩
  exists h.f,d6,m8,k
theorem DN:∃(p len:Int) (xs:List Int) (za:Nat) (H':Hp),A7 (jW [.scr] []= .ok (.tup [.int p,.int len,.ref za]) H') (H'[za]? = some (.list (xs.map V.int))) (1<=p/\p<=40) (1<=len/\len<=60) (kh len xs) (xs≠[]) (xs.length<=8):=by
 refine oE λG kG=> ?_
 refine bz (aF ["_law_script"] [.scr]) λl0 e0=> ?_
 have a0:l0 "_law_script" = some .scr:=e0▸rfl
 obtain ⟨f,hf⟩:=nQ [] 0 ∅ ∅
 obtain ⟨s,hs⟩:=nQ [] 1 ∅ ∅
 obtain ⟨c2,h2⟩:=nQ [] 2 ∅ ∅
 obtain ⟨c3,h3⟩:=nQ [] 3 ∅ ∅
 refine bz (upd l0 "_law_first" (.int f)) λl1 e1=> ?_
 refine bz (upd l1 "_law_second" (.int s)) λl2 e2=> ?_
 refine bz (upd l2 "_law_pages" (.int (1+f.fmod 6))) λl3 e3=> ?_
 refine bz (upd l3 "_law_length" (.int (1+s.fmod 12))) λl4 e4=> ?_
 haveI m6:∀q,bD (.int f) (.int 6) q= .ok (.int (f.fmod 6)) q:=λq=>cW ∅ rfl
 haveI m12:∀q,bD (.int s) (.int 12) q= .ok (.int (s.fmod 12)) q:=λq=>cW ∅ rfl
 have r1:=bj f 6 ∅
 have r2:=bj s 12 ∅
 have a1:=ah e1 ∅ a0
 have a2:=ah e2 ∅ (aA e1)
 have a3:=ah e3 ∅ (aA e2)
 haveI t1:mz ⟨l0,[]⟩= .ok .next ⟨l1,[]⟩:=by exists a0,hf,e1
 haveI t2:mA ⟨l1,[]⟩= .ok .next ⟨l2,[]⟩:=by exists a1,hs,e2
 haveI t3:mB ⟨l2,[]⟩= .ok .next ⟨l3,[]⟩:=by exists a2,m6,e3
 haveI t4:mC ⟨l3,[]⟩= .ok .next ⟨l4,[]⟩:=by exists a3,m12,e4
 haveI B4:PB f s (1+f.fmod 6) (1+s.fmod 12) l4:=⟨⟨by exact bQ 0x19c198009811 r1.1,by exact bQ 0x28a019c8690911 r1.2⟩,⟨by exact bQ 0x19c198009811 r2.1,by exact bQ 0x3ca019c8c90911 r2.2⟩,ah e4 ∅ (ah e3 ∅ (ah e2 ∅ a1)),ah e4 ∅ (ah e3 ∅ a2),ah e4 ∅ a3,ah e4 ∅ (aA e3),aA e4⟩
 obtain ⟨p5,n5,l5,t5,B5⟩:=Fb (H:=[]) B4 1 40 4 ⟨by decide,by decide⟩ ⟨by decide,by decide⟩
 obtain ⟨p6,n6,l6,t6,B6⟩:=Fb (H:=[]) B5 2 2 60 ⟨by decide,by decide⟩ ⟨by decide,by decide⟩
 obtain ⟨p,len,l,t7,B⟩:=Fb (H:=[]) B6 3 40 60 ⟨by decide,by decide⟩ ⟨by decide,by decide⟩
 haveI m8:∀q,bD (.int c3) (.int 8) q= .ok (.int (c3.fmod 8)) q:=λq=>cW ∅ rfl
 have r3:=bj c3 8 ∅
 obtain ⟨v,H',w1,xs,rfl,w2,w3,w4,w5,w6⟩:=BM [] c2 len (1+c3.fmod 8) B.hl.1 (by exact bQ 0x19c198009811 r3.1) (by exact bQ 0x89019c8890911 r3.2)
 refine kG ⟨p,len,xs,_,H',aU (m:=oV) (q:=⟨l,H'⟩) rfl ?_,w3,B.hp,B.hl,w4,w5,w6⟩
 rw [e0]
 refine ai t1 (ai t2 (ai t3 (ai t4 (ai t5 (ai t6 (ai t7 ?_))))))
 exists B.p,B.n,B.a,h2,h3,m8,w1
theorem xZ (H T:Hp) (j:Nat):(H++T)[H.length+j]? = T[j]? := by rw [aan (aaJ _ _),aaA]
noncomputable def jK (n pl:Nat) (p len:Int):Hp:=[.flds (roomF pl (n+1) (n+3)),.dict [],.list [.int 0],.list ((List.replicate (p*len).toNat (0:Int)).map V.int)]
theorem IX {H:Hp} {l:bw} {pl m:Nat} {p len:Int} (hpl:H[pl]? = some (.flds (jd p len m))) (hp:1<=p/\p<=40) (hl:1<=len/\len<=60) :
  oY "Room" (jy) [.inst "Plan" pl] ⟨l,H⟩= .ok (.inst "Room" H.length) ⟨l,H++jK H.length pl p len⟩:=by
 refine bz (aF ["self", "plan"] [.inst "Room" H.length,.inst "Plan" pl]) λl0 e0=> ?_
 have a1:l0 "self" = some (.inst "Room" H.length):=e0▸rfl
 have a2:l0 "plan" = some (.inst "Plan" pl):=e0▸rfl
 refine bz (O.list ((List.replicate (p*len).toNat (0:Int)).map V.int)) λL eL=> ?_
 haveI eT:jK H.length pl p len=[.flds (roomF pl (H.length+1) (H.length+3)),.dict [],.list [.int 0],L]:=by rw [<- eL];rfl
 rw [eT]
 refine bz ([("plan",V.inst "Plan" pl),("racks",V.ref (H.length+1))]) λf2 ef2=> ?_
 haveI b1:0<=p*len:=Int.mul_nonneg (by exact bQ 0x98019811 hp.1) (by exact bQ 0x98019811 hl.1)
 haveI b2:p*len<=40*60:=Int.mul_le_mul hp.2 hl.2 (by exact bQ 0x98019811 hl.1) ∅
 have hpl':∀T:Hp,(H++T)[pl]? = some (.flds (jd p len m)):=λT=>aG ⟨_,rfl⟩ hpl
 haveI m1:∀q,gx (.int p) (.int len) q= .ok (.int (p*len)) q:=λq=>uQ p len q (IB (by exact bQ 0x98019811 hp.1) (by exact bQ 0xf4240a09000028a0811 hp.2))
 haveI m2:gx (.ref (H.length+2)) (.int (p*len)) ⟨l0,H++[.flds f2,.dict [],.list [.int 0]]⟩= .ok (.ref (H.length+3)) ⟨l0,H++[.flds f2,.dict [],.list [.int 0],L]⟩:=by
  rw [Cv (a:=(0:Int)) (f:=V.int) (by rw [aan (aaJ _ _),aaA];rfl) ⟨b1,by exact bQ 0xf4240a0800003ca28d0811 b2⟩,eL,aad,aae];rfl
 haveI n0:Gy ⟨l0,H++[.flds [("plan",V.inst "Plan" pl)]]⟩= .ok (.ref (H.length+1)) ⟨l0,H++[.flds [("plan",V.inst "Plan" pl)],.dict []]⟩:=by
  unfold Gy;dsimp only;rw [aad,aae];rfl
 haveI n1:dr [.int 0] ⟨l0,H++[.flds f2,.dict []]⟩= .ok (.ref (H.length+2)) ⟨l0,H++[.flds f2,.dict [],.list [.int 0]]⟩:=by
  rw [uR,if_pos (aa6 rfl),aad,aae];rfl
 rw [BC,show jy [.inst "Room" H.length,.inst "Plan" pl] (H++[.flds []])= .ok .none (H++[.flds (roomF pl (H.length+1) (H.length+3)),.dict [],.list [.int 0],L]) from ?_]
 refine n7 (m:=sr) (q:=⟨l0,H++[.flds (roomF pl (H.length+1) (H.length+3)),.dict [],.list [.int 0],L]⟩) rfl ?_
 rw [e0]
 refine ai (q':=⟨l0,H++[.flds [("plan",.inst "Plan" pl)]]⟩) ?_ (ai (q':=⟨l0,H++[.flds f2,.dict []]⟩) ?_ ?_)
 ·exists a1,a2,nW (fs:=[]) ∅
 ·rw [<- ef2];exists n0,a1,nW (fs:=[("plan",.inst "Plan" pl)]) (aa6 rfl)
 ·haveI st:=nW (l:=l0) (H:=H) (c := "Room") (f := "cells") (v:= .ref (H.length+3)) (fs:=f2) (os:=[.dict [],.list [.int 0],L]) (by rw [<- ef2];exact aa6 rfl)
  rw [show vP "cells" (.ref (H.length+3)) f2=roomF pl (H.length+1) (H.length+3) by rw [<- ef2];rfl] at st
  exists n1,a2,fz (hpl' _) (Fj _ _ _),fz (hpl' _) (xq _ _ _),m1,m2,a1,st
noncomputable def Km (n pl m:Nat) (p len:Int) (xs:List Int):Rm:=⟨pl,n+1,n+3,m,p,len,xs,[],List.replicate (p*len).toNat 0⟩
theorem IJ {n pl m:Nat} {p len:Int} {xs:List Int} (hp:1<=p/\p<=40) (hl:1<=len/\len<=60) (hs:kh len xs) (hne:xs≠[]) (hm:m≠n+3):(Km n pl m p len xs).Ok:=by
 haveI b1:0<=p*len:=Int.mul_nonneg (by exact bQ 0x98019811 hp.1) (by exact bQ 0x98019811 hl.1)
 refine ⟨hp,hl,hs,hne,.nil,.nil,λs h=>(nomatch h),λs h=>(nomatch h),λs h=>(nomatch h),?_,λh=>(nomatch h),λh=>(nomatch h),hm⟩
 show (((List.replicate (p*len).toNat (0:Int)).length:Nat):Int)=p*len
 rw [List.length_replicate];exact id (aa0 (j5 0xf800fa11 (aaq b1)) ((Int.self_le_toNat _)))
theorem Dw {H:Hp} {l:bw} {j:Nat} {p len:Int} {xs:List Int} (hp:1<=p/\p<=40) (hl:1<=len/\len<=60) (hs:kh len xs) (hne:xs≠[]) (h8:xs.length<=8) (hj:H[j]? = some (.list (xs.map V.int))) :
  oY "Plan" (jx) [.int p,.int len,.ref j] ⟨l,H⟩= .ok (.inst "Plan" H.length) ⟨l,H++[.flds (jd p len (H.length+1)),.list (xs.map V.int)]⟩:=by
 haveI:=IV (H++[.flds []]) H.length j p len xs hp hl hs hne h8 (aY _ _) (aG ⟨_,rfl⟩ hj)
 rw [BC,this]
 simp
theorem Iw {H T:Hp} {n j:Nat} (e:H.length=n) (h:n+T.length=j):(H++T).length=j:=by rw [aad,e,h]
theorem lb (p len:Int) (F:Vw):b7 p len F=(gI p).flatMap (dP len F):=by
 unfold b7 cX
 induction gI p with
 | nil=>rfl
 | cons g l ih =>
  rw [List.filter_cons,aaZ,<- ih]
  cases h:F g with
  | some v=>rw [if_pos (by rfl)];rfl
  | none =>
   rw [if_neg ∅]
   haveI:dP len F g=[]:=by unfold dP;rw [h]
   rw [this];rfl
theorem pD {f f':Int->List (Int×Int)}:∀ {l:List Int},(∀x∈l,f x=f' x)->l.flatMap f=l.flatMap f'
 | [],_=>rfl
 | x::l,h=>by rw [aaZ,aaZ,h x (.head _),pD λy hy=>h y (.tail _ hy)]
theorem uf {f f':Int->List (Int×Int)} {g:Int} (h0:f' g=[]) (h1:∀x,x≠g->f' x=f x):∀ {l:List Int},l.Nodup->g∈l->(l.flatMap f).Perm (f g++l.flatMap f')
 | [],_,h=>by cases h
 | x::l,hd,h=>by
  obtain ⟨d1,d2⟩:=List.nodup_cons.mp hd
  rw [aaZ,aaZ]
  by_cases e:x=g
  ·subst e
   haveI:l.flatMap f'=l.flatMap f:=pD λy hy=>h1 y λe=>d1 (e▸hy)
   rw [h0,this];exact .refl _
  ·haveI hg:g∈l:=(aal.mp h).resolve_left λe'=>e e'.symm
   rw [h1 x e]
   haveI:=(uf h0 h1 d2 hg).append_left (f x)
   refine this.trans ?_
   rw [<- aae,<- aae]
   exact List.perm_append_comm.append_right _
theorem rT {p len:Int} {F:Vw} {g:Int} (hg:0<=g/\g<p):(b7 p len F).Perm (dP len F g++b7 p len (dq F g none)):=by
 rw [lb,lb]
 refine uf ?_ (λx hx=> ?_) (uC (ik p)) (qW.mpr hg)
 ·unfold dP;rw [dh]
 ·unfold dP;rw [iE _ _ hx]
theorem vG (len:Int) (F:Vw) (g z:Int) (bs:List Bool):dP len (dq F g (some (z,bs))) g=(cu 0 bs).map λk=>(g*len+k*z,z):=by unfold dP;rw [dh]
theorem CU {p len:Int} {F:Vw} {g:Int} (hg:0<=g/\g<p) (v:Option (Int×List Bool)):(b7 p len (dq F g v)).Perm (dP len (dq F g v) g++b7 p len (dq F g none)):=by
 haveI:=rT (len:=len) (F:=dq F g v) hg
 rw [oB] at this;exact this
theorem fK:∀(bs:List Bool) (a:Int),bs.count true=0->cu a bs=[]
 | [],_,_=>rfl
 | false::bs,a,h=>fK bs (a+1) (by simpa using h)
 | true::bs,a,h=>by simp at h
theorem xB:∀(bs:List Bool) (a:Int) (k:Nat),bs[k]? = some false->(cu a (bs.set k true)).Perm ((a+k)::cu a bs)
 | [],_,_,h=>by simp at h
 | b::bs,a,0,h=>by
  cases Option.some.inj h
  rw [List.set_cons_zero,Int.natCast_zero,Int.add_zero];exact .refl _
 | b::bs,a,k+1,h=>by
  have:=xB bs (a+1) k h
  rw [show a+1+(k:Int)=a+((k+1:Nat):Int) by exact aa0 (j5 0x190cf0c0f190cc80) (j5 0xf190cc190cf0c80)] at this
  rw [List.set_cons_succ]
  cases b with
  | true=>exact (this.cons a).trans (.swap _ _ _)
  | false=>exact this
theorem yD {bs:List Bool} {k:Nat} {b:Bool} (h:bs[k]? = some b) (c:Bool):(bs.set k c).set k b=bs:=by
 obtain ⟨hk,e⟩:=aab.mp h
 rw [List.set_set,<- e,List.set_getElem_self]
theorem yd {bs:List Bool} {k:Nat} {b:Bool} (h:bs[k]? = some b) (c:Bool):(bs.set k c)[k]? = some c:=aaB (aab.mp h).1
theorem vH {p len:Int} {F:Vw} {g z:Int} {bs:List Bool} {k:Nat} (hg:0<=g/\g<p) (hF:dP len F g=(cu 0 bs).map λk=>(g*len+k*z,z)) (hk:bs[k]? = some false) :
  (b7 p len (dq F g (some (z,bs.set k true)))).Perm ((g*len+k*z,z)::b7 p len F):=by
 refine (CU hg _).trans ?_
 haveI h1:=(xB bs 0 k hk).map λk=>(g*len+k*z,z)
 rw [Int.zero_add] at h1
 rw [vG]
 refine (h1.append_right _).trans ?_
 rw [aas,aa3,<- hF]
 exact ((rT hg).symm).cons _
theorem wV {bs:List Bool} {k:Nat} (h:bA bs=some k):bs[k]? = some false:=(jD h).2
structure Pk (p:Int) (F:Vw) (z g:Int) (bs:List Bool):Prop where
 hg:0<=g/\g<p
 old:F g=some (z,bs)\/bs.count true=0/\(F g=none\/ ∃v,F g=some v/\v.2.count true=0)
theorem GF {p len:Int} {F:Vw} {z:Int} (hin:∀g v,F g=some v->0<=g/\g<p) {gF:Int×Vw} (h:Af p len F z=some gF) {bs:List Bool} (hb:gF.2 gF.1=some (z,bs)) {k:Nat} (hk:bA bs=some k) :
  Pk p F z gF.1 bs/\dq gF.2 gF.1 (some (z,bs.set k true))=dq F gF.1 (some (z,bs.set k true)):=by
 unfold Af at h
 cases hbst:Gc F none (cP p F z) with
 | some g =>
  rw [hbst] at h
  cases h
  exact ⟨⟨hin _ _ hb,.inl hb⟩,rfl⟩
 | none =>
  rw [hbst] at h
  obtain ⟨g,hg,rfl⟩:=Option.map_eq_some_iff.mp h
  dsimp only at hb ⊢
  rw [dh] at hb
  cases hb
  refine ⟨⟨?_,.inr ⟨by rw [List.count_replicate];rfl,?_⟩⟩,oB _ _ _ _⟩
  all_goals
   unfold EC at hg
   split at hg
   ·rename_i g' r hbr
    cases hg
    have:=Eg (F:=F) (p:=p) (g:=g) (by rw [hbr];exact .head _)
    first | exact this.1 | exact .inl this.2
   ·have:=List.mem_of_head? hg
    obtain ⟨h1,v,hv⟩:=Et this
    first
     | exact h1
     | exact .inr ⟨v,hv,by
       haveI h2:=(aaF.mp this).2
       unfold Es at h2;rw [hv] at h2;simpa using h2⟩
theorem Pk.thg {p len:Int} {F:Vw} {z g:Int} {bs:List Bool} (h:Pk p F z g bs):dP len F g=(cu 0 bs).map λk=>(g*len+k*z,z):=by
 unfold dP
 rcases h.old with h1 | ⟨h1,h2 | ⟨v,h2,h3⟩⟩
 ·rw [h1]
 ·rw [h2,fK bs 0 h1];rfl
 ·rw [h2];dsimp only;rw [fK v.2 0 h3,fK bs 0 h1];rfl
theorem Ax {p len:Int} {F:Vw} {g z:Int} {bs:List Bool} {k:Nat} (hg:0<=g/\g<p) (hF:F g=some (z,bs)) (hk:bs[k]? = some true) :
  (b7 p len F).Perm ((g*len+k*z,z)::b7 p len (Gi p F g z (bs.set k false))):=by
 haveI h1:=vH (p:=p) (len:=len) (F:=dq F g (some (z,bs.set k false))) (z:=z) (bs:=bs.set k false) (k:=k) hg (vG _ _ _ _ _) (yd hk false)
 rw [yD hk,oB] at h1
 haveI e:dq F g (some (z,bs))=F:=by
  funext x
  by_cases hx:x=g
  ·rw [hx,dh,hF]
  ·rw [iE _ _ hx]
 rw [e] at h1
 refine h1.trans (.cons _ ?_)
 unfold Gi
 split
 ·rename_i h
  refine (CU hg _).trans ?_
  rw [vG,fK _ _ h.1,oB];exact .refl _
 ·exact .refl _
theorem FK (p len:Int) (F:Vw):b7 p len (fF F (mF p F))=b7 p len F:=by
 rw [lb,lb]
 refine pD λg hg=> ?_
 unfold dP fF
 split
 ·rename_i v hv
  split at hv
  ·cases hv
  ·rw [hv]
 ·rename_i hv
  split at hv
  ·rename_i hm
   haveI h2:=(aaF.mp hm).2
   unfold Es at h2
   cases hF:F g with
   | none=>rfl
   | some v =>
    rw [hF] at h2
    dsimp only
    rw [fK v.2 0 (by simpa using h2)];rfl
  ·rw [hv]
def JS (len z:Int) (F:Vw):Prop:= ∀g v,F g=some v->v.1=z->(v.2.length:Int)=len.fdiv z
noncomputable def Ag (e:Int×Int):PyData:= .tuple [.int e.1,.int e.2]
theorem GJ (H:Hp) (n:Nat) (e:Int×Int):toD H (n+2) (aD e)=some (Ag e):=rfl
theorem yr (a b:Int×Int):PyData.eqv (Ag a) (Ag b)=decide (a=b):=by
 unfold Ag
 rw [xX,gL,gL,nY,nY,show PyData.eqvAll [] []=true from rfl,Bool.and_true,<- Bool.decide_and]
 exact decide_eq_decide.mpr Prod.ext_iff.symm
theorem BG (e:Int×Int):Sh 1 (Ag e):=vc λd hd=>by
 rcases aal.mp hd with rfl | hd
 ·exact u8 _ _
 ·rw [aaj.mp hd];exact u8 _ _
theorem FF (os:List (Int×Int)):Sh 2 (.list (os.map Ag)):=yF λd hd=>by
 obtain ⟨e,_,rfl⟩:=aag.mp hd
 exact BG e
theorem CD (H:Hp) (n:Nat) (os:List (Int×Int)):dX (toD H (n+2)) (os.map aD)=some (os.map Ag):=uE _ _ _ (GJ H n) os
theorem Ee (e:Int×Int):∀os:List (Int×Int),((os.map Ag).any λy=>PyData.eqv y (Ag e))=decide (e∈os)
 | []=>rfl
 | x::os=>by
  rw [aas,List.any_cons,Ee e os,yr,<- Bool.decide_or]
  exact decide_eq_decide.mpr ⟨λh=>aal.mpr (h.imp Eq.symm id),λh=>(aal.mp h).imp Eq.symm id⟩
theorem EK {H:Hp} {l:bw} {o:Nat} {os:List (Int×Int)} (h:H[o]? = some (.list (os.map aD))) (a b:Int):un (.tup [.int a,.int b]) (.ref o) ⟨l,H⟩= .ok (decide ((a,b)∈os)) ⟨l,H⟩:=by
 haveI e:I8 H (.tup [.int a,.int b]) (os.map aD)=some (decide ((a,b)∈os)):=by
  unfold I8
  rw [show toD H 8 (.tup [.int a,.int b])=some (Ag (a,b)) from rfl,aaR,CD H 6,aaR,(BG _).shaped ∅,(FF os).shaped ∅,Bool.and_self,if_pos rfl,Ee]
 unfold un;dsimp only;rw [h];dsimp only;rw [e]
theorem Ip {os:List (Int×Int)} {e:Int×Int} (h:e∈os):∃i,(os.map Ag).findIdx (λy=>PyData.eqv y (Ag e))=i/\os[i]? = some e:=by
 have hf:(os.map Ag).findIdx (λy=>PyData.eqv y (Ag e))<(os.map Ag).length:=List.findIdx_lt_length_of_exists ⟨Ag e,aag.mpr ⟨e,h,rfl⟩,by rw [yr];exact decide_eq_true rfl⟩
 haveI hg:=List.findIdx_getElem (w:=hf)
 rw [aai] at hf
 refine ⟨_,rfl,?_⟩
 rw [List.getElem_map,yr] at hg
 rw [aak hf,of_decide_eq_true hg]
theorem zM {H:Hp} {l:bw} {o:Nat} {os:List (Int×Int)} (h:H[o]? = some (.list (os.map aD))) {a b:Int} (hm:(a,b)∈os) (hl:os.length<=1000000):∃i:Nat,ye (.ref o) (.tup [.int a,.int b]) ⟨l,H⟩= .ok (.int i) ⟨l,H⟩/\os[i]? = some (a,b):=by
 obtain ⟨i,e,hi⟩:=Ip hm
 refine ⟨i,?_,hi⟩
 haveI hlt:=(aab.mp hi).1
 show (match H[o]? with | some (.list xs)=>(match toD H 8 (.tup [.int a,.int b]),dX (toD H 8) xs with | some d,some ds=>_ | _,_=>_) | _=>_)=_
 rw [h];dsimp only
 rw [show toD H 8 (.tup [.int a,.int b])=some (Ag (a,b)) from rfl,CD H 6];dsimp only
 rw [e,if_pos ⟨⟨(BG _).shaped ∅,(FF os).shaped ∅⟩,by rw [aai];exact hl,by rw [aai];exact hlt⟩]
theorem IM {H:Hp} {l:bw} {o:Nat} {vs:List V} (v:V) (h:H[o]? = some (.list vs)) {i:Nat} (hi:i<vs.length) (hl:vs.length<=1000000):dn (.ref o) (.int i) v ⟨l,H⟩= .ok () ⟨l,H.set o (.list (vs.set i v))⟩:=by
 haveI h1:(i:Int)<1000000:=by exact cM 0xf4240a0f90f4240a10110112 hi hl
 unfold dn;dsimp only;rw [h];exact if_pos ⟨Int.natCast_nonneg _,h1,Int.ofNat_lt.mpr hi⟩
theorem IF {H:Hp} {l:bw} {o:Nat} {vs:List V} {v:V} (h:H[o]? = some (.list vs)) {i:Int} (h0:0<=i) (hi:i<vs.length) (hl:vs.length<=1000000) (hv:vs[i.toNat]? = some v):Fo (.ref o) (.int i) ⟨l,H⟩= .ok v ⟨l,H.set o (.list (vs.eraseIdx i.toNat))⟩:=by
 unfold Fo;dsimp only;rw [h];dsimp only;rw [if_pos (show 0<=i/\i<(vs.length:Int)/\vs.length<=1000000 from ⟨h0,hi,hl⟩),hv]
theorem pN {α:Type} {os:List α} {i:Nat} {e:α} (h:os[i]? = some e):os.Perm (e::os.eraseIdx i):=by
 induction os generalizing i with
 | nil=>cases h
 | cons x os ih =>
  cases i with
  | zero=>cases h;exact .refl _
  | succ i=>exact ((ih h).cons x).trans (.swap _ _ _)
theorem Ff {α:Type} {os:List α} {i:Nat} (b:α) (h:i<os.length):(os.set i b).Perm (b::os.eraseIdx i):=by
 haveI:=pN (os:=os.set i b) (i:=i) (e:=b) (aaB h)
 rwa [List.eraseIdx_set_eq] at this
noncomputable def JN (len z:Int) (it:Int×Int):Int×Int:=(it.1*len+it.2*z,z)
theorem CT {p len z:Int} {F:Vw}:∀ {l:List Int},l.Nodup->(∀g∈l,(0<=g/\g<p)/\ ∃bs,F g=some (z,bs))->(b7 p len F).Perm ((l.flatMap (zT F)).map (JN len z)++b7 p len (fF F l))
 | [],_,_=>by rw [uW];exact .refl _
 | g::l,hd,h=>by
  obtain ⟨d1,d2⟩:=List.nodup_cons.mp hd
  obtain ⟨hg,bs,hb⟩:=h g (.head _)
  haveI ih:=CT (len:=len) d2 λx hx=>h x (.tail _ hx)
  haveI sp:=rT (len:=len) (F:=fF F l) hg
  rw [DD] at sp
  haveI e:dP len (fF F l) g=(zT F g).map (JN len z):=by
   unfold dP zT fF
   rw [if_neg d1,hb];dsimp only
   rw [List.map_map];rfl
  rw [e] at sp
  refine (ih.trans (sp.append_left _)).trans ?_
  rw [aaZ,List.map_append,<- aae]
  exact (List.perm_append_comm).append_right _
structure Mv (p z:Int) (stay ns:List Int) (Fr:Vw):Prop where
 on:∀x∈stay,∃bs,Fr x=some (z,bs)
 rg:∀x∈stay,0<=x/\x<p
 ns:∀x∈stay,x∉ns
theorem Gw {p len z:Int} {stay ns:List Int} {Fr:Vw} (h:Mv p z stay ns Fr) {it:Int×Int} (hm:(stay.find? (CA Fr)).isSome=true) :
  ∃to,A3 ((pM len z stay Fr it).1=(it.1*len+it.2*z,to)) (Mv p z stay ns (pM len z stay Fr it).2) ((b7 p len (fF (pM len z stay Fr it).2 ns)).Perm ((to,z)::b7 p len (fF Fr ns))):=by
 obtain ⟨x,hx⟩:=aaQ.mp hm
 have hxs:=aaE hx
 obtain ⟨v,j,hv,hj⟩:=uL (List.find?_some hx)
 obtain ⟨bs,hb⟩:=h.on x hxs
 obtain rfl:v=(z,bs):=Option.some.inj (hv.symm.trans hb)
 rw [yj it hx hv hj]
 refine ⟨_,rfl,⟨λy hy=> ?_,h.rg,h.ns⟩,?_⟩
 ·by_cases e:y=x
  ·exact ⟨_,by rw [e];exact dh _ _ _⟩
  ·exact (h.on y hy).imp λ_ hy=>(iE _ _ e).trans hy
 ·haveI e:fF (dq Fr x (some (z,bs.set j true))) ns=dq (fF Fr ns) x (some (z,bs.set j true)):=by
   funext y
   unfold fF dq
   by_cases e:y=x
   ·rw [if_pos e,e,if_neg (h.ns x hxs),if_pos rfl]
   ·rw [if_neg e,if_neg e]
  dsimp only
  rw [e]
  refine vH (h.rg x hxs) ?_ (wV hj)
  unfold dP fF;rw [if_neg (h.ns x hxs),hb]
structure Kq (o mv:Nat) (z:Int) (l:bw):Prop where
 o:l "_law_out" = some (.ref o)
 z:l "_law_size" = some (.int z)
theorem Cj {p len z:Int} {stay ns:List Int} {o mv:Nat} (hom:mv≠o) {cs:List V}:∀ {its:List (Int×Int)} {Fr:Vw} {os:List (Int×Int)} {H:Hp} {l:bw},EZ len z stay Fr its->Mv p z stay ns Fr->os.Perm (its.map (JN len z)++b7 p len (fF Fr ns))->os.length<=100000->H[o]? = some (.list (os.map aD))->H[mv]? = some (.list cs)->Kq o mv z l ->
  ∃(l':bw) (H':Hp) (os':List (Int×Int)),A4 (dS (λH=>ay (.ref mv) H=some cs) (a9 "_law_move") (gr) ((f8 len z stay Fr its).1.map aD) ⟨l,H⟩= .ok .next ⟨l',H'⟩) (dp [o] H H') (H'[o]? = some (.list (os'.map aD))) (os'.Perm (b7 p len (fF (f8 len z stay Fr its).2 ns)))
 | [],Fr,os,H,l,_,_,hp,_,ho,_,_=>⟨l,H,os,rfl,dp.refl _ _,ho,hp⟩
 | it::its,Fr,os,H,l,hok,hM,hp,hlen,ho,hc,hl=>by
  refine oE λG kG=> ?_
  obtain ⟨to,e1,hM',hp'⟩:=Gw (len:=len) (it:=it) hM hok.1
  have hin:(it.1*len+it.2*z,z)∈os:=hp.mem_iff.mpr (.head _)
  obtain ⟨i,ix,hi⟩:=zM (l:=upd l "_law_move" (.tup [.int (it.1*len+it.2*z),.int to])) ho hin (by exact cU 0xf4240a000186a0a0011 hlen)
  have hil:=(aab.mp hi).1
  refine bz (upd l "_law_move" (.tup [.int (it.1*len+it.2*z),.int to])) λl1 el=> ?_
  rw [el] at ix
  haveI iv:=EK (l:=l1) ho (it.1*len+it.2*z) z
  rw [decide_eq_true hin] at iv
  haveI st:=IM (l:=l1) (.tup [.int to,.int z]) ho (i:=i) (by rw [aai];exact hil) (by rw [aai];exact id (cU 0xf4240a000186a0a0011 hlen))
  haveI es:(os.map aD).set i (.tup [.int to,.int z])=(os.set i (to,z)).map aD:=by rw [List.map_set];rfl
  rw [es] at st
  refine bz (H.set o (.list ((os.set i (to,z)).map aD))) λH1 eH=> ?_
  rw [eH] at st
  have C1:dp [o] H H1:=eH▸dp.set (.head _)
  haveI ho1:H1[o]? = some (.list ((os.set i (to,z)).map aD)):=by rw [<- eH];exact aaB (cj ho)
  have hc1:=C1.get hc (λh=>hom (aaj.mp h))
  have d0:∀q,aR (.tup [.int (it.1*len+it.2*z),.int to]) (.int 0) q= .ok (.int (it.1*len+it.2*z)) q:=λq=>rfl
  haveI d1:∀q,aR (.tup [.int (it.1*len+it.2*z),.int to]) (.int 1) q= .ok (.int to) q:=λq=>rfl
  have a1:=ah el ∅ hl.o
  have a2:=ah el ∅ hl.z
  haveI tb:gr ⟨l1,H⟩= .ok .next ⟨l1,H1⟩:=by
   refine ai (q':=⟨l1,H⟩) ?_ ?_
   ·exists aA el,d0,a2,a1,iv
   ·exists aA el,d1,a2,a1,rj ho,d0,ix,st
  haveI hp1:(os.set i (to,z)).Perm (its.map (JN len z)++b7 p len (fF (pM len z stay Fr it).2 ns)):=by
   haveI h1:=(pN hi).symm.trans hp
   rw [aas,aa3] at h1
   refine (Ff _ hil).trans ?_
   refine (h1.cons_inv.cons _).trans ?_
   refine List.perm_middle.symm.trans ?_
   exact hp'.symm.append_left _
  obtain ⟨l2,H2,os2,t2,C2,ho2,hp2⟩:=Cj hom hok.2 hM' hp1 (by rw [List.length_set];exact hlen) ho1 hc1 ⟨a1,a2⟩
  haveI em:(f8 len z stay Fr (it::its)).1.map aD= .tup [.int (it.1*len+it.2*z),.int to]::(f8 len z stay (pM len z stay Fr it).2 its).1.map aD:=by
   rw [f8,aas,e1];rfl
  refine kG ⟨l2,H2,os2,?_,C1.trans C2,ho2,hp2⟩
  rw [em]
  exact (cg (bq (g_set el) tb) (fW hc1)).trans t2
theorem Ir {H:Hp} {l:bw} {i:Nat} {vs:List V} (h:H[i]? = some (.list vs)):mG "list" (.ref i) ⟨l,H⟩= .ok (.bool true) ⟨l,H⟩:=by rw [Hw,show yT H (.ref i)=some "list" by unfold yT;dsimp only;rw [h]];rfl
theorem uM {H:Hp} {n:Nat} {cs:List V} (hn:H[n]? = some (.list cs)):∀(es:List (Int×Int)) (l:bw),∃l',dS (λH=>ay (.ref n) H=some cs) (a9 "_law_pair") (oK) (es.map aD) ⟨l,H⟩= .ok .next ⟨l',H⟩
 | [],l=>⟨l,rfl⟩
 | e::es,l=>by
  refine bz (upd l "_law_pair" (.tup [.int e.1,.int e.2])) λl1 el=> ?_
  obtain ⟨l2,t⟩:=uM hn es l1
  haveI d0:∀q,aR (.tup [.int e.1,.int e.2]) (.int 0) q= .ok (.int e.1) q:=λq=>rfl
  haveI d1:∀q,aR (.tup [.int e.1,.int e.2]) (.int 1) q= .ok (.int e.2) q:=λq=>rfl
  haveI it:∀q,mG "tuple" (.tup [.int e.1,.int e.2]) q= .ok (.bool true) q:=λq=>rfl
  haveI ln:∀q,eW [.tup [.int e.1,.int e.2]] q= .ok (.int 2) q:=λq=>rfl
  haveI e2:∀q,ko (.int 2) (.int 2) q= .ok true q:=λq=>oQ rfl
  refine ⟨l2,(cg (q':=⟨l1,H⟩) (bq (g_set el) (ai (q':=⟨l1,H⟩) ?_ ?_)) (fW hn)).trans t⟩
  ·exists aA el,it,ln,e2
  ·exists aA el,d0,d1,qQ
theorem CW {H:Hp} {n:Nat} {es:List (Int×Int)} (hn:H[n]? = some (.list (es.map aD))):jC [.ref n] H= .ok (.bool true) H:=by
 refine bz (aF ["_law_found_here"] [.ref n]) λl0 e0=> ?_
 have a0:l0 "_law_found_here" = some (.ref n):=e0▸rfl
 obtain ⟨l',t⟩:=uM hn es l0
 refine aU (m:=sE) (q:=⟨l',H⟩) rfl ?_
 rw [e0]
 refine ai (q':=⟨l0,H⟩) ?_ (ai (q':=⟨l',H⟩) (bq (bq (g_get a0) (pJ hn)) t) rfl)
 exists a0,Ir hn
structure OG (col:Nat->Nat) (H:Hp) (p len:Int) (xs:List Int) (ri o za:Nat) (r:Rm) (os:List (Int×Int)):Prop where
 r:RG 1 col H p len xs ri r
 co:col o=2
 o:H[o]? = some (.list (os.map aD))
 cz:col za=0
 z:H[za]? = some (.list (xs.map V.int))
inductive BU (col:Nat->Nat) (H:Hp) (p len:Int) (xs:List Int) (ri o za:Nat) (H':Hp):Prop
 | mk (col':Nat->Nat) (r:Rm) (os:List (Int×Int)) (g:OG col' H' p len xs ri o za r os) (pm:os.Perm (b7 p len (look r.ss))) (e:y0 1 col H col' H'):BU col H p len xs ri o za H'
section
variable {col:Nat->Nat} {H:Hp} {p len:Int} {xs:List Int} {ri o za:Nat} {r:Rm} {os:List (Int×Int)}
theorem BU.trans {col':Nat->Nat} {H1 H2:Hp} (e:y0 1 col H col' H1) (h:BU col' H1 p len xs ri o za H2):BU col H p len xs ri o za H2:=by
 cases h with
 | mk col2 r os g pm e2=>exact ⟨col2,r,os,g,pm,e.trans e2⟩
theorem OG.room (h:OG col H p len xs ri o za r os) {H':Hp} {r':Rm} (a:aN H' ri r') (ok:r'.Ok) (sm:r.Sm r') (ch:dp (r.own ri) H H') (ow:∀i∈r'.own ri,i∈r.own ri\/H.length<=i) :
  OG (jf col H.length 1 (r'.own ri)) H' p len xs ri o za r' os/\y0 1 col H (jf col H.length 1 (r'.own ri)) H':=by
 obtain ⟨x,e⟩:=h.r.step a ok sm ch ow
 have w1:=e.get h.o (by rw [h.co];decide)
 have w2:=e.get h.z (by rw [h.cz];decide)
 exact ⟨⟨x,w1.2.trans h.co,w1.1,w2.2.trans h.cz,w2.1⟩,e.evo ∅⟩
theorem OG.roomF (h:OG col H p len xs ri o za r os) {H':Hp} {r':Rm} (a:aN H' ri r') (ok:r'.Ok) (sm:r.Sm r') (ch:dp (r.own ri) H H') (ow:∀i∈r'.own ri,i∈r.own ri\/H.length<=i) :
  OG (jf col H.length 1 (r'.own ri)) H' p len xs ri o za r' os/\F7 1 col (r.own ri) H (jf col H.length 1 (r'.own ri)) H':=⟨(h.room a ok sm ch ow).1,(h.r.step a ok sm ch ow).2⟩
theorem OG.out (h:OG col H p len xs ri o za r os) {H':Hp} {os':List (Int×Int)} (ch:dp [o] H H') (ho:H'[o]? = some (.list (os'.map aD))) :
  OG (jf col H.length 0 []) H' p len xs ri o za r os'/\y0 1 col H (jf col H.length 0 []) H':=by
 have e:F7 2 col [o] H (jf col H.length 0 []) H':=⟨ch,λi hi _=>by rw [aaj.mp hi];exact h.co,λi hi=>jg hi⟩
 have w2:=e.get h.z (by rw [h.cz];decide)
 exact ⟨⟨h.r.frame e ∅ ∅,(jg (cj h.o)).trans h.co,ho,w2.2.trans h.cz,w2.1⟩,e.evo ∅⟩
theorem OG.pre (h:OG col H p len xs ri o za r os) {H':Hp} (e:H<+:H'):OG (jf col H.length 0 []) H' p len xs ri o za r os/\y0 1 col H (jf col H.length 0 []) H':=h.out (dp.pre e) (aG e h.o)
theorem OG.inr (h:OG col H p len xs ri o za r os):∀g v,look r.ss g=some v->0<=g/\g<p:=λg v hv=>by
 obtain ⟨s,hs,_,_⟩:=bn hv
 haveI:=h.r.ok.pg s (aW hs).1
 rw [(aW hs).2,h.r.rp] at this;exact this
theorem OG.szok (h:OG col H p len xs ri o za r os) (z:Int):JS len z (look r.ss):=λg v hv hz=>by
 obtain ⟨s,hs,y1,y2⟩:=bn hv
 haveI:=h.r.ok.slots s (aW hs).1
 rw [<- y2,this,h.r.rl,y1,hz]
theorem OG.sz (h:OG col H p len xs ri o za r os):kh len xs:=h.r.rl▸h.r.rx▸h.r.ok.sz
theorem OG.few (h:OG col H p len xs ri o za r os) (pm:os.Perm (b7 p len (look r.ss))):os.length<=40000:=by
 rw [pm.length_eq]
 haveI:∀ks:List Int,(ks.flatMap (dP len (look r.ss))).length<=1000*ks.length:=λks=>by
  induction ks with
  | nil=>exact aaD _
  | cons g ks ih =>
   haveI:(dP len (look r.ss) g).length<=1000:=by
    unfold dP
    split
    ·rename_i v hv
     obtain ⟨s,hs,_,y2⟩:=bn hv
     rw [aai,iJ,<- y2]
     exact aam List.count_le_length (h.r.ok.bslen (aW hs).1)
    ·exact Nat.zero_le _
   rw [aaZ,aad,aav,Nat.mul_succ,Nat.add_comm];exact Nat.add_le_add ih this
 exact aam (this _) (Nat.mul_le_mul_left _ (kr p (h.r.rp▸h.r.ok.p.2) _))
theorem OG.wish (h:OG col H p len xs ri o za r os) {w:Int} (hw:1<=w):match xs.find? (λx=>decide (x>=w)) with
  | none=>cD [.inst "Room" ri,.int w] H= .exc "TooLarge" H
  | some z=>match Af p len (look r.ss) z with
   | none=> ∃H',cD [.inst "Room" ri,.int w] H= .exc "NoRoom" H'/\H<+:H'
   | some _=> ∃g bs k r' H' col',Pk p (look r.ss) z g bs/\(bs.length:Int)=len.fdiv z/\bA bs=some k/\cD [.inst "Room" ri,.int w] H= .ok (.int (g*len+(k:Nat)*z)) H'/\look r'.ss=dq (look r.ss) g (some (z,bs.set k true))/\OG col' H' p len xs ri o za r' os/\F7 1 col (r.own ri) H col' H'/\(b7 p len (look r'.ss)).Perm ((g*len+(k:Nat)*z,z)::b7 p len (look r.ss)):=by
 have v:=I1 h.r.rm h.r.ok hw
 rw [h.r.rp,h.r.rl,h.r.rx] at v
 cases hf:xs.find? (λx=>decide (x>=w)) with
 | none=>rw [hf] at v;exact v
 | some z =>
  rw [hf] at v
  dsimp only at v ⊢
  cases hp:Af p len (look r.ss) z with
  | none=>rw [hp] at v;exact v
  | some gF =>
   rw [hp] at v
   obtain ⟨bs,j,r',H1,f1,f2,v1,v2,v3,v4,v5,v6,v7⟩:=v
   obtain ⟨g1,e1⟩:=h.roomF v2 v3 v4 v6 v7
   obtain ⟨P,eF⟩:=GF h.inr hp f1 f2
   rw [eF] at v5
   refine ⟨gF.1,bs,j,r',H1,_,P,?_,f2,v1,v5,g1,e1,?_⟩
   ·haveI:=g1.szok z gF.1 (z,bs.set j true) (by rw [v5,dh]) rfl
    rw [List.length_set] at this;exact this
   ·rw [v5];exact vH P.hg P.thg (wV f2)
theorem CV (h:OG col H p len xs ri o za r os) (pm:os.Perm (b7 p len (look r.ss))) {w:Int} (hw:1<=w):∃H',jA [.inst "Room" ri,.ref za,.ref o,.int w] H= .ok (.bool true) H'/\BU col H p len xs ri o za H':=by
 refine oE λG kG=> ?_
 refine bz (aF ["_law_room", "_law_sizes", "_law_out", "_law_wish"] [.inst "Room" ri,.ref za,.ref o,.int w]) λl0 e0=> ?_
 haveI a1:l0 "_law_room" = some (.inst "Room" ri):=e0▸rfl
 haveI a2:l0 "_law_sizes" = some (.ref za):=e0▸rfl
 haveI a3:l0 "_law_out" = some (.ref o):=e0▸rfl
 have a4:l0 "_law_wish" = some (.int w):=e0▸rfl
 refine bz ((xs.find? λx=>decide (x>=w)).getD 0) λy ey=> ?_
 have sb:=xm h.z w
 rw [ey] at sb
 refine bz (upd l0 "_law_size" (.int y)) λl1 el1=> ?_
 have t1:pd ⟨l0,H⟩= .ok .next ⟨l1,H⟩:=by exists a2,a4,sb,el1
 have b1:=ah el1 ∅ a1
 have b4:=ah el1 ∅ a4
 have b5:=aA el1
 have v:=h.wish hw
 cases hf:xs.find? (λx=>decide (x>=w)) with
 | none =>
  rw [hf] at v ey
  subst ey
  refine kG ⟨H,aU (m:=jH) (q:=⟨l1,H⟩) rfl ?_,col,r,os,h,pm,y0.refl _ _ _⟩
  rw [e0]
  refine ai t1 (bB (xY (bx (bq (g_get b1) (bq (aH h.r.rm ∅ _) (bq (bq (g_get b4) (bq rfl rfl)) (cL v))))) ?_))
  rw [if_pos rfl]
  exact bq (bq (g_get b5) (bq rfl (bq (g_ceq rfl) rfl))) rfl
 | some z =>
  rw [hf] at v ey
  haveI ey:z=y:=ey
  subst ey
  haveI hz1:=h.sz.low z (aaE hf)
  have k1:decide (z>0)=true:=decide_eq_true (by exact bQ 0x99019811 hz1)
  dsimp only at v
  cases hp:Af p len (look r.ss) z with
  | none =>
   rw [hp] at v
   obtain ⟨H1,v1,p1⟩:=v
   obtain ⟨g1,E1⟩:=h.pre p1
   refine kG ⟨H1,aU (m:=jH) (q:=⟨l1,H1⟩) rfl ?_,_,r,os,g1,pm,E1⟩
   rw [e0]
   refine ai t1 (bB (xY (bx (bq (g_get b1) (bq (aH h.r.rm ∅ _) (bq (bq (g_get b4) (bq rfl rfl)) (cL v1))))) ?_))
   rw [if_neg ∅,if_pos rfl]
   exact bq (bq (g_get b5) (bq rfl (bq (g_cgt k1) rfl))) rfl
  | some gF =>
   rw [hp] at v
   obtain ⟨g,bs,j,r',H1,col1,_,_,_,v1,_,g1,E1,pm1⟩:=v
   haveI E1:y0 1 col H col1 H1:=E1.evo ∅
   haveI pm1:=(pm.cons _).trans pm1.symm
   refine bz (g*len+(j:Nat)*z) λpl epl=> ?_
   rw [epl] at v1 pm1
   refine bz (upd l1 "_law_place" (.int pl)) λl2 el2=> ?_
   haveI t2:pe ⟨l1,H⟩= .ok .next ⟨l2,H1⟩:=Ho (bq (bq (g_get b1) (bq (aH h.r.rm ∅ _) (bq (bq (g_get b4) (bq rfl rfl)) (g_call v1)))) (bq (g_set el2) rfl))
   haveI hfw:=h.few pm
   haveI ap:=qu (.tup [.int pl,.int z]) l2 H1 g1.o (by rw [aai];exact id (cU 0xf4240a01009c40a0011 hfw))
   haveI es:os.map aD++[.tup [.int pl,.int z]]=(os++[(pl,z)]).map aD:=by rw [List.map_append];rfl
   rw [es] at ap
   refine bz (H1.set o (.list ((os++[(pl,z)]).map aD))) λH2 eH2=> ?_
   rw [eH2] at ap
   obtain ⟨g2,E2⟩:=g1.out (H':=H2) (eH2▸dp.set (.head _)) (by rw [<- eH2];exact aaB (cj g1.o))
   have c5:=ah el2 ∅ b5
   have c6:=aA el2
   refine kG ⟨H2,aU (m:=jH) (q:=⟨l2,H2⟩) rfl ?_,_,r',_,g2,(List.perm_append_comm (l₁:=os) (l₂:=[(pl,z)])).trans pm1,E1.trans E2⟩
   rw [e0]
   refine ai t1 (ai t2 (ai (q':=⟨l2,H2⟩) ?_ ?_))
   ·exists ah el2 ∅ (ah el1 ∅ a3),rj g1.o,c6,c5,ap
   ·exists c6,qQ,c5,k1
theorem BJ (h:OG col H p len xs ri o za r os) (pm:os.Perm (b7 p len (look r.ss))) {z:Int} (hz:z∈xs):∃H',iS [.inst "Room" ri,.int z,.ref o] H= .ok (.bool true) H'/\BU col H p len xs ri o za H':=by
 refine oE λG kG=> ?_
 refine bz (aF ["_law_room", "_law_size", "_law_out"] [.inst "Room" ri,.int z,.ref o]) λl0 e0=> ?_
 haveI a1:l0 "_law_room" = some (.inst "Room" ri):=e0▸rfl
 have a2:l0 "_law_size" = some (.int z):=e0▸rfl
 haveI a3:l0 "_law_out" = some (.ref o):=e0▸rfl
 haveI v:=AB h.r.rm h.r.ok (z:=z) (by rw [h.r.rx];exact hz)
 rw [h.r.rl,h.r.rp] at v
 obtain ⟨n,r',H1,w1,w2,w3,w4,w5,w6,w7,w8,w9,w10⟩:=v
 obtain ⟨g1,E1⟩:=h.room w4 w5 w6 w8 λi hi=> .inl (w9 i hi)
 refine bz (upd l0 "_law_moves" (.ref n)) λl1 el1=> ?_
 have b1:=aA el1
 refine bz (look r.ss) λF eF=> ?_
 have hin:=h.inr
 haveI hso:=h.szok z
 rw [eF] at w3 w7 hin hso pm
 obtain ⟨u1,u2,u3,u4⟩:=er (a:=len) (b:=z) (by haveI:=h.r.ok.len;rw [h.r.rl] at this;exact id (bQ 0x98019811 this.1)) (h.sz.low z hz)
 haveI per1:1<=len.fdiv z:=zB u1 u4 (h.sz.top z hz)
 haveI hok:=EE (p:=p) hso per1
 haveI hns:((cP p F z).filter λg => !decide (g∈bU p len F z)).Nodup:=qS.filter _
 haveI hnm:∀g∈(cP p F z).filter (λg => !decide (g∈bU p len F z)),(0<=g/\g<p)/\ ∃bs,F g=some (z,bs):=λg hg=>by
  obtain ⟨bs,hb⟩:=AQ (aaF.mp hg).1
  exact ⟨hin g _ hb,bs,hb⟩
 haveI out:=CT (len:=len) hns hnm
 rw [<- EQ] at out
 haveI hMv:Mv p z (bU p len F z) ((cP p F z).filter λg => !decide (g∈bU p len F z)) F:=⟨λx hx=>AQ (tT hx),λx hx=>by
  obtain ⟨bs,hb⟩:=AQ (tT hx)
  exact hin x _ hb,λx hx hn=>by
  have:=(aaF.mp hn).2
  rw [decide_eq_true hx] at this;cases this⟩
 haveI hno:n≠o:=λe=>absurd (cj h.o) (Nat.not_lt.mpr (e▸w2))
 obtain ⟨l2,H2,os2,t3,C2,ho2,pm2⟩:=Cj (l:=l1) hno hok hMv (pm.trans out) (by haveI:=h.few (eF▸pm);exact id (cU 0x186a0a00009c40a0011 this)) g1.o w3 ⟨ah el1 ∅ a3,ah el1 ∅ a2⟩
 obtain ⟨g2,E2⟩:=g1.out C2 ho2
 refine kG ⟨H2,aU (m:=m5) (q:=⟨l2,H2⟩) rfl ?_,_,r',os2,g2,by rw [w7];exact pm2,E1.trans E2⟩
 rw [e0]
 refine ai (q':=⟨l1,H1⟩) ?_ (ai (q':=⟨l1,H1⟩) ?_ (ai (q':=⟨l2,H2⟩) (bq (bq (g_get b1) (pJ w3)) t3) rfl))
 ·exists a1,aH h.r.rm (f := "gather") ∅,a2,w1,el1
 ·exists b1,CW w3
end
theorem xn {α β:Type} (f:α->β):∀(l:List α) (i:Nat),(l.map f).eraseIdx i=(l.eraseIdx i).map f
 | [],_=>rfl
 | _::_,0=>rfl
 | x::l,i+1=>by rw [aas,List.eraseIdx_cons_succ,List.eraseIdx_cons_succ,aas,xn f l i]
structure TL (ri o za:Nat) (len cell more:Int) (l:bw):Prop where
 r:l "_law_room" = some (.inst "Room" ri)
 n:l "_law_length" = some (.int len)
 s:l "_law_sizes" = some (.ref za)
 o:l "_law_out" = some (.ref o)
 c:l "_law_cell" = some (.int cell)
 m:l "_law_more" = some (.int more)
theorem TL.turn {ri o za:Nat} {len cell more:Int} {l l':bw} (h:TL ri o za len cell more l) {v:V} (e:upd l "_law_turn" v=l'):TL ri o za len cell more l' :=
 ⟨ah e ∅ h.r,ah e ∅ h.n,ah e ∅ h.s,ah e ∅ h.o,ah e ∅ h.c,ah e ∅ h.m⟩
section
variable {col:Nat->Nat} {H:Hp} {p len cell more:Int} {xs:List Int} {ri o za:Nat} {r:Rm} {os:List (Int×Int)} {l:bw}
theorem IA (a:Int) (q:S):bD (.int a) (.int 8) q= .ok (.int (a.fmod 8)) q:=cW ∅ rfl
theorem xw:∀(ys:List V) {col:Nat->Nat} {H:Hp} {r:Rm} {os:List (Int×Int)} {l:bw},OG col H p len xs ri o za r os->os.Perm (b7 p len (look r.ss))->TL ri o za len cell more l ->
  ∃l' H',dS (λ_=>True) (a9 "_law_turn") (lu) ys ⟨l,H⟩= .ok .next ⟨l',H'⟩/\BU col H p len xs ri o za H'
 | [],col,H,r,os,l,h,pm,_=>⟨l,H,rfl,col,r,os,h,pm,y0.refl _ _ _⟩
 | y::ys,col,H,r,os,l,h,pm,hl=>by
  refine oE λG kG=> ?_
  have hlen:=h.r.ok.len.1
  rw [h.r.rl] at hlen
  haveI hw:=bj more len (by exact bQ 0x99019811 hlen)
  obtain ⟨H1,t1,E1⟩:=CV h pm (w:=1+more.fmod len) (by exact bQ 0x19c198009811 hw.1)
  refine bz (upd l "_law_turn" y) λl1 e1=> ?_
  have T1:=hl.turn e1
  haveI md:∀q,bD (.int more) (.int len) q= .ok (.int (more.fmod len)) q:=λq=>cW (by exact λx9=>bQ 0x9096090a1019812 hlen x9:len≠0) rfl
  haveI tb:lu ⟨l1,H⟩= .ok .next ⟨l1,H1⟩:=by exists T1.r,T1.s,T1.o,T1.m,T1.n,md,t1
  cases E1 with
  | mk col1 r1 os1 g1 pm1 e1' =>
   obtain ⟨l2,H2,t2,E2⟩:=xw ys g1 pm1 T1
   exact kG ⟨l2,H2,(cg (bq (g_set e1) tb) trivial).trans t2,E2.trans e1'⟩
theorem IR (h:OG col H p len xs ri o za r os) (pm:os.Perm (b7 p len (look r.ss))) (hl:TL ri o za len cell more l) (hc:cell.fmod 8<7):∃q',iD ⟨l,H⟩= .ok (.ret (.bool true)) q'/\BU col H p len xs ri o za q'.H:=by
 refine oE λG kG=> ?_
 have k1:decide (cell.fmod 8<7)=true:=decide_eq_true hc
 have q0:=wU (l:=l) h.o (uO os)
 refine bz (H++[O.list []]) λH1 eH1=> ?_
 rw [eH1] at q0
 haveI p1:H<+:H1:=⟨_,eH1⟩
 obtain ⟨g1,E1⟩:=h.pre p1
 have hfw:=h.few pm
 have tA:∀ {M R:Cm Fl} {q':S},M ⟨l,H1⟩= .ok .next q'->R q'= .ok (.ret (.bool true)) q'->BU col H p len xs ri o za q'.H->os≠[]->((((af "_law_cell").b λv58=>(Cm.p (V.int 8)).b λv59=>bD v58 v59).b λv60=>(Cm.p (V.int 7)).b λv61=>(dE .Lt v60 v61).b λx62=>Cm.p x62).b λb84=>if b84 then (aw (((af "_law_out").b λv64=>((Cm.p ([]:List V)).b λvs63=>dr vs63).b λv65=>(dE .NotEq v64 v65).b λx66=>Cm.p x66).b λb82=>if b82 then M else (Cm.p Fl.next)) R) else (Cm.p Fl.next)) ⟨l,H⟩= .ok (.ret (.bool true)) q':=λ{M R q'} hM hR hE hne=>by
  haveI hb:(os.map aD).isEmpty=false:=by
   cases os with
   | nil=>exact absurd rfl hne
   | cons=>rfl
  rw [hb] at q0
  refine bq (a:=true) (q':=⟨l,H⟩) ?_ (it_t rfl (ai (bq (a:=true) (q':=⟨l,H1⟩) ?_ (it_t rfl hM)) hR))
  ·exists hl.c,IA,k1
  ·exists hl.o,eH1,q0
 cases os with
 | nil =>
  refine kG ⟨⟨l,H1⟩,bq (a:=true) (q':=⟨l,H⟩) ?_ (it_t rfl (ai (q':=⟨l,H1⟩) (bq (a:=false) (q':=⟨l,H1⟩) ?_ (it_f rfl rfl)) rfl)),_,r,[],g1,pm,E1⟩
  ·exists hl.c,IA,k1
  ·exists hl.o,eH1,q0
 | cons t0 th =>
  refine bz (t0::th) λts ets=> ?_
  have hne:ts≠[]:=by rw [<- ets];exact List.cons_ne_nil _ _
  rw [ets] at h pm g1 hfw tA
  haveI hp:0<ts.length:=List.length_pos_iff.mpr hne
  haveI hlv:eW [.ref o] ⟨l,H1⟩= .ok (.int ts.length) ⟨l,H1⟩:=by
   haveI:=cH (l:=l) g1.o (by rw [aai];exact id (cU 0xf4240a01009c40a0011 hfw))
   rw [aai] at this;exact this
  have hi:=bj more ts.length (by exact cU 0xf099009111 hp)
  refine bz (more.fmod ts.length) λi ei=> ?_
  rw [ei] at hi
  obtain ⟨e,he⟩:∃e,ts[i.toNat]? = some e:=⟨_,aak (by exact kx 0x1101fa10f0912 hi.2 (aaq hi.1))⟩
  obtain ⟨g,z,bs,j,hg,hj,rfl⟩:=lS (pm.mem_iff.mp (aaN he))
  haveI pp:=IF (l:=l) (v:= .tup [.int (g*len+j*z),.int z]) g1.o hi.1 (by rw [aai];exact hi.2) (by rw [aai];exact id (cU 0xf4240a00009c40a0011 hfw)) (by rw [List.getElem?_map,he];rfl)
  haveI em:(ts.map aD).eraseIdx i.toNat=(ts.eraseIdx i.toNat).map aD:=xn _ _ _
  rw [em] at pp
  refine bz (H1.set o (.list ((ts.eraseIdx i.toNat).map aD))) λH2 eH2=> ?_
  rw [eH2] at pp
  obtain ⟨g2,E2⟩:=g1.out (H':=H2) (eH2▸dp.set (.head _)) (by rw [<- eH2];exact aaB (cj g1.o))
  obtain ⟨s,hs,y1,y2⟩:=ug hg
  haveI hj':=hj
  rw [<- y2] at hj
  haveI w:=sT g2.r.rm g2.r.ok hs y1 hj
  rw [h.r.rl,h.r.rp,y2] at w
  obtain ⟨r',H3,w1,w2,w3,w4,w5,w6,w7⟩:=w
  obtain ⟨g3,E3⟩:=g2.room w2 w3 w4 w6 λi hi=> .inl (w7 i hi)
  haveI pm3:(ts.eraseIdx i.toNat).Perm (b7 p len (look r'.ss)):=by
   rw [w5]
   exact (((pN he).symm.trans pm).trans (Ax (h.inr g _ hg) hg hj')).cons_inv
  haveI d0:∀q,aR (.tup [.int (g*len+j*z),.int z]) (.int 0) q= .ok (.int (g*len+j*z)) q:=λq=>rfl
  have hE:BU col H p len xs ri o za H3:=⟨_,r',_,g3,pm3,(E1.trans E2).trans E3⟩
  refine kG ⟨⟨l,H3⟩,tA (q':=⟨l,H3⟩) ?_ rfl hE hne,hE⟩
  exists hl.r,aH g1.r.rm (f := "give_back") ∅,hl.o,rj g1.o,hl.m,hlv,cW (JK he) ei,pp,d0,w1
theorem IY (h:OG col H p len xs ri o za r os) (pm:os.Perm (b7 p len (look r.ss))) (cell:Int):∃H',pC [.inst "Room" ri,.int len,.ref za,.ref o,.int cell] H= .ok (.bool true) H'/\BU col H p len xs ri o za H':=by
 refine oE λG kG=> ?_
 refine bz (aF ["_law_room", "_law_length", "_law_sizes", "_law_out", "_law_cell"] [.inst "Room" ri,.int len,.ref za,.ref o,.int cell]) λl0 e0=> ?_
 obtain ⟨more,em⟩:∃m,cell.fdiv 8=m:=⟨_,rfl⟩
 refine bz (upd l0 "_law_more" (.int more)) λl e1=> ?_
 have hl:TL ri o za len cell more l:=⟨ah e1 ∅ (e0▸rfl),ah e1 ∅ (e0▸rfl),ah e1 ∅ (e0▸rfl),ah e1 ∅ (e0▸rfl),ah e1 ∅ (e0▸rfl),aA e1⟩
 haveI c0:l0 "_law_cell" = some (.int cell):=e0▸rfl
 haveI t1:qM ⟨l0,H⟩= .ok .next ⟨l,H⟩:=by
  haveI v8:∀q,dR (.int cell) (.int 8) q= .ok (.int more) q:=λq=>gk ∅ em
  exists c0,v8,e1
 have gv:∀ {q':S},aw (lP) (aw (lQ) (aw (iD) (aw (lR) (qN)))) ⟨l,H⟩= .ok (.ret (.bool true)) q'->BU col H p len xs ri o za q'.H->G:=λ{q'} hm hE =>
  kG ⟨q'.H,aU (m:=uD) (q:=q') rfl (by rw [e0];exact ai t1 hm),hE⟩
 have hL:=h.r.ok.len
 rw [h.r.rl] at hL
 haveI hw:=bj more len (by exact bQ 0x99019811 hL.1)
 haveI md:∀q,bD (.int more) (.int len) q= .ok (.int (more.fmod len)) q:=λq=>cW (by exact λx9=>bQ 0x9096090a1019812 hL.1 x9:len≠0) rfl
 by_cases h2:cell.fmod 8<3
 ·haveI k2:decide (cell.fmod 8<3)=true:=decide_eq_true h2
  obtain ⟨H1,t,E1⟩:=CV h pm (w:=1+more.fmod len) (by exact bQ 0x19c198009811 hw.1)
  refine gv (q':=⟨l,H1⟩) (bB ?_) E1
  exists hl.c,IA,k2,hl.r,hl.s,hl.o,hl.m,hl.n,md,t
 haveI k2:decide (cell.fmod 8<3)=false:=decide_eq_false h2
 have t2:lP ⟨l,H⟩= .ok .next ⟨l,H⟩:=by exists hl.c,IA,k2
 by_cases h3:cell.fmod 8<5
 ·haveI k3:decide (cell.fmod 8<5)=true:=decide_eq_true h3
  have rg:=bj (more.fdiv 2) 6 ∅
  obtain ⟨l',H1,t,E1⟩:=xw (bN 0 (1+(more.fdiv 2).fmod 6).toNat) h pm hl
  haveI m1:∀q,dR (.int more) (.int 2) q= .ok (.int (more.fdiv 2)) q:=λq=>gk ∅ rfl
  haveI m2:∀q,bD (.int (more.fdiv 2)) (.int 6) q= .ok (.int ((more.fdiv 2).fmod 6)) q:=λq=>cW ∅ rfl
  haveI rv:=kz (1+(more.fdiv 2).fmod 6) ⟨l,H⟩ ⟨by exact bQ 0x19c0f4240a1b9009811 rg.1,by exact bQ 0xf4240a019c9690911 rg.2⟩
  refine gv (q':=⟨l',H1⟩) (ai t2 (bB (bq (a:=true) (q':=⟨l,H⟩) ?_ (it_t rfl (ai (q':=⟨l',H1⟩) (bq (a:=⟨bN 0 (1+(more.fdiv 2).fmod 6).toNat,λ_=>True⟩) (q':=⟨l,H⟩) ?_ t) rfl))))) E1
  ·exists hl.c,IA,k3
  ·exists hl.m,m1,m2,rv
 haveI k3:decide (cell.fmod 8<5)=false:=decide_eq_false h3
 have t3:lQ ⟨l,H⟩= .ok .next ⟨l,H⟩:=by exists hl.c,IA,k3
 by_cases h4:cell.fmod 8<7
 ·obtain ⟨q',t,E⟩:=IR h pm hl h4
  exact gv (ai t2 (ai t3 (bB t))) E
 haveI k4:decide (cell.fmod 8<7)=false:=decide_eq_false h4
 have t4:iD ⟨l,H⟩= .ok .next ⟨l,H⟩:=by exists hl.c,IA,k4
 have m3:∀q,bD (.int more) (.int 3) q= .ok (.int (more.fmod 3)) q:=λq=>cW ∅ rfl
 by_cases h5:more.fmod 3=0
 ·haveI k5:decide (more.fmod 3=0)=true:=decide_eq_true h5
  haveI v:=I0 h.r.rm h.r.ok
  rw [h.r.rp] at v
  obtain ⟨r',H1,w1,w2,w3,w4,w5,w6,w7⟩:=v
  obtain ⟨g1,E1⟩:=h.room w2 w3 w4 w6 λi hi=> .inl (w7 i hi)
  refine gv (q':=⟨l,H1⟩) (ai t2 (ai t3 (ai t4 (bB (bq (a:=true) (q':=⟨l,H⟩) ?_ (it_t rfl (ai (q':=⟨l,H1⟩) ?_ rfl))))))) ⟨_,r',os,g1,by rw [w5,FK];exact pm,E1⟩
  ·exists hl.m,m3,k5
  ·exists hl.r,aH h.r.rm (f := "trim") ∅,w1
 ·haveI k5:decide (more.fmod 3=0)=false:=decide_eq_false h5
  haveI t5:lR ⟨l,H⟩= .ok .next ⟨l,H⟩:=by exists hl.m,m3,k5
  have hsz:=h.sz
  have hxl:=uz (a:=0) (b:=len) hsz.rise (λx hx=>⟨hsz.low x hx,hsz.top x hx⟩) (by exact bQ 0x98019811 hL.1)
  haveI hx0:0<xs.length:=List.length_pos_iff.mpr (h.r.rx▸h.r.ok.ne)
  haveI hlv:eW [.ref za] ⟨l,H⟩= .ok (.int xs.length) ⟨l,H⟩:=by
   haveI:=cH (l:=l) h.z (by rw [aai];exact id (j5 0xf4240a01090e0f8100003ca0812 hL.2 hxl))
   rw [aai] at this;exact this
  haveI v3:∀q,dR (.int more) (.int 3) q= .ok (.int (more.fdiv 3)) q:=λq=>gk ∅ rfl
  have hi:=bj (more.fdiv 3) xs.length (by exact cU 0xf099009111 hx0)
  refine bz ((more.fdiv 3).fmod xs.length) λi ei=> ?_
  rw [ei] at hi
  obtain ⟨z,he⟩:∃z,xs[i.toNat]? = some z:=⟨_,aak (by exact kx 0x1101fa10f0912 hi.2 (aaq hi.1))⟩
  haveI itm:aR (.ref za) (.int i) ⟨l,H⟩= .ok (.int z) ⟨l,H⟩:=dL h.z hi.1 (by exact Dz 0xf4240a190f191090e0f8100003ca0813 hL.2 hxl hi.2) (by rw [List.getElem?_map,he];rfl)
  obtain ⟨H1,t,E⟩:=BJ h pm (aaN he)
  refine gv (q':=⟨l,H1⟩) (ai t2 (ai t3 (ai t4 (ai t5 ?_)))) E
  exists hl.r,hl.s,hl.m,v3,hlv,cW (JK he) ei,itm,hl.o,t
structure HL (ri o za:Nat) (len:Int) (l:bw):Prop where
 r:l "_law_room" = some (.inst "Room" ri)
 n:l "_law_length" = some (.int len)
 s:l "_law_sizes" = some (.ref za)
 o:l "_law_out" = some (.ref o)
theorem xg {x:Nat} {cs:List V}:∀(ys:List Int) {col:Nat->Nat} {H:Hp} {r:Rm} {os:List (Int×Int)} {l:bw},OG col H p len xs ri o za r os->os.Perm (b7 p len (look r.ss))->H[x]? = some (.list cs)->col x=0->HL ri o za len l ->
  ∃l' H',A3 (dS (λH=>ay (.ref x) H=some cs) (a9 "_law_cell") (gV) (ys.map V.int) ⟨l,H⟩= .ok .next ⟨l',H'⟩) (l' "_law_out" = some (.ref o)) (BU col H p len xs ri o za H')
 | [],col,H,r,os,l,h,pm,_,_,hl=>⟨l,H,rfl,hl.o,col,r,os,h,pm,y0.refl _ _ _⟩
 | y::ys,col,H,r,os,l,h,pm,hx,cx,hl=>by
  refine oE λG kG=> ?_
  obtain ⟨H1,t1,E1⟩:=IY h pm y
  refine bz (upd l "_law_cell" (.int y)) λl1 e1=> ?_
  have T1:HL ri o za len l1:=⟨ah e1 ∅ hl.r,ah e1 ∅ hl.n,ah e1 ∅ hl.s,ah e1 ∅ hl.o⟩
  haveI tb:gV ⟨l1,H⟩= .ok .next ⟨l1,H1⟩:=by exists T1.r,T1.n,T1.s,T1.o,aA e1,t1
  cases E1 with
  | mk col1 r1 os1 g1 pm1 e1' =>
   have w:=e1'.get (aaD 1) hx cx
   obtain ⟨l2,H2,t2,b2,E2⟩:=xg ys g1 pm1 w.1 w.2 T1
   exact kG ⟨l2,H2,(cg (bq (g_set e1) tb) (fW w.1)).trans t2,b2,E2.trans e1'⟩
theorem DM {x:Nat} {ys:List Int} (h:RG 1 col H p len xs ri r) (hz:H[za]? = some (.list (xs.map V.int))) (cz:col za=0) (hx:H[x]? = some (.list (ys.map V.int))) (cx:col x=0) (h0:look r.ss=λ_=>none) :
  ∃o H',jV [.ref x,.inst "Room" ri,.int len,.ref za] H= .ok (.ref o) H'/\BU col H p len xs ri o za H':=by
 refine oE λG kG=> ?_
 refine bz (aF ["_law_cells", "_law_room", "_law_length", "_law_sizes"] [.ref x,.inst "Room" ri,.int len,.ref za]) λl0 e0=> ?_
 refine bz (H++[O.list []]) λH1 eH=> ?_
 haveI p1:H<+:H1:=⟨_,eH⟩
 refine bz (upd l0 "_law_out" (.ref H.length)) λl1 e1=> ?_
 haveI hL:HL ri H.length za len l1:=⟨ah e1 ∅ (e0▸rfl),ah e1 ∅ (e0▸rfl),ah e1 ∅ (e0▸rfl),aA e1⟩
 haveI a0:l1 "_law_cells" = some (.ref x):=ah e1 ∅ (e0▸rfl)
 have fr:F7 2 col [] H (jf col H.length 2 [H.length]) H1:=⟨dp.pre p1,λi hi=>(nomatch hi),λi hi=>jg hi⟩
 have wz:=fr.get hz (by rw [cz];decide)
 have wx:=fr.get hx (by rw [cx];decide)
 haveI g:OG (jf col H.length 2 [H.length]) H1 p len xs ri H.length za r []:=⟨h.frame fr ∅ ∅,Am (Nat.lt_irrefl _) (.head _),by rw [<- eH];exact aY _ _,wz.2.trans cz,wz.1⟩
 haveI pm:([]:List (Int×Int)).Perm (b7 p len (look r.ss)):=by
  rw [h0]
  haveI:b7 p len (λ_=>none)=[]:=by
   rw [lb]
   haveI:dP len (λ_=>none)=λ_=>[]:=rfl
   rw [this]
   induction gI p with
   | nil=>rfl
   | cons _ _ ih=>rw [aaZ,ih];rfl
  rw [this]
 obtain ⟨l2,H2,t2,b2,E2⟩:=xg ys g pm wx.1 (wx.2.trans cx) hL
 refine kG ⟨H.length,H2,aU (m:=oU) (q:=⟨l2,H2⟩) rfl ?_,E2.trans (fr.evo ∅)⟩
 rw [e0]
 refine ai (q':=⟨l1,H1⟩) ?_ (ai (q':=⟨l2,H2⟩) (bq (bq (g_get a0) (pJ wx.1)) t2) (bq (g_get b2) rfl))
 exists eH,e1
end
section
variable {col:Nat->Nat} {H:Hp} {p len:Int} {xs:List Int} {ri o za:Nat} {r:Rm} {os:List (Int×Int)} {l:bw}
theorem OG.page (h:OG col H p len xs ri o za r os) {g z:Int} {bs:List Bool} {j:Nat} (hg:look r.ss g=some (z,bs)) (hj:j<bs.length):(g*len+j*z).fdiv len=g/\(g*len+j*z).fmod len=j*z/\1<=z:=by
 obtain ⟨s,hs,y1,y2⟩:=ug hg
 have hm:=(aW hs).1
 have hz:=h.r.ok.szpos hm
 haveI hl:=h.r.ok.slots s hm
 haveI hL:=h.r.ok.len
 rw [h.r.rl] at hz hl hL
 rw [y1] at hz hl
 rw [y2] at hl
 obtain ⟨u1,u2,u3,u4⟩:=er (a:=len) (b:=z) (by exact bQ 0x98019811 hL.1) hz.1
 haveI b2:0<=(j:Int)*z:=Int.mul_nonneg (by exact cU 0xf0980) (by exact bQ 0x98019811 hz.1)
 haveI b3:((j:Int)+1)*z<=len.fdiv z*z:=Int.mul_le_mul_of_nonneg_right (by exact kx 0x190fc801fa110112 hj hl) (by exact bQ 0x98019811 hz.1)
 rw [Int.add_mul] at b3
 have:=JV (q:=g) (b:=len) (r:=j*z) b2 (by exact Gl 0x2391001d3c812181019813 hz.1 u3 b3)
 exact ⟨this.1,this.2,hz.1⟩
end
theorem Ia {H:Hp} {l:bw} {a1 a2 b1 b2:Nat} {u v:List V} (h1:Rf H a1 b1 u) (h2:Rf H a2 b2 v):ko (.tup [.ref a1,.ref a2]) (.tup [.ref b1,.ref b2]) ⟨l,H⟩= .ok true ⟨l,H⟩:=by
 have e:∀ {x y:Nat},H[x]? = some (.list u)->H[y]? = some (.list v)->toD H 8 (.tup [.ref x,.ref y])=some (.tuple [.list (u.map s9),.list (v.map s9)]):=λ{x y} hx hy=>by
  show (dX (toD H 7) [.ref x,.ref y]).map PyData.tuple=_
  rw [rn,oA hx (rB h1.pl),rn,oA hy (rB h2.pl)];rfl
 refine Hm (n:=3) (e h1.a h2.a) (e h1.b h2.b) (vc λd hd=> ?_) ∅ ?_
 ·rcases aal.mp hd with rfl | hd
  ·exact u9 h1.pl
  ·rw [aaj.mp hd];exact u9 h2.pl
 ·rw [xX,gL,xW h1.pl,gL,xW h2.pl];rfl
noncomputable def zW (n:Nat) (i:Nat):Nat:=if i<n then 0 else ([1,1,0,1][i-n]?).getD 0
theorem qj (n j:Nat):zW n (n+j)=([1,1,0,1][j]?).getD 0:=by
 unfold zW;rw [if_neg (Nat.not_lt.mpr (aaJ _ _)),aaA]
theorem ET {n i:Nat} (h:i<n):zW n i=0:=if_pos h
section
variable {col:Nat->Nat} {H:Hp} {p len:Int} {xs:List Int} {ri o za:Nat} {r:Rm} {os:List (Int×Int)} {l:bw}
theorem slot {len z:Int} {j n:Nat} (hl:1<=len) (hz:1<=z) (hn:(n:Int)=len.fdiv z) (hj:j<n):0<=(j:Int)*z/\(j:Int)*z+z<=len:=by
 obtain ⟨u1,u2,u3,u4⟩:=er (a:=len) (b:=z) (by exact bQ 0x98019811 hl) hz
 haveI b3:((j:Int)+1)*z<=len.fdiv z*z:=Int.mul_le_mul_of_nonneg_right (by exact kx 0x191fc8011100fa12 hn hj) (by exact bQ 0x98019811 hz)
 rw [Int.add_mul,Int.one_mul] at b3
 exact ⟨Int.mul_nonneg (by exact cU 0xf0980) (by exact bQ 0x98019811 hz),Int.le_trans b3 u3⟩
theorem uN {a b len:Int} (h:a<b) (hl:1<=len):a*len+len<=b*len:=by
 haveI:(a+1)*len<=b*len:=Int.mul_le_mul_of_nonneg_right h (by exact bQ 0x98019811 hl)
 rw [Int.add_mul,Int.one_mul] at this;exact this
end
theorem xA:∀(bs:List Bool) (a:Int),(∀k∈cu a bs,a<=k)/\(cu a bs).Pairwise (· < ·)
 | [],a=>⟨λk hk=>(nomatch hk),.nil⟩
 | b::bs,a=>by
  obtain ⟨h1,h2⟩:=xA bs (a+1)
  cases b with
  | true =>
   rw [GT]
   exact ⟨λk hk=>(aal.mp hk).elim (λe=>Int.le_of_eq e.symm) λhk=>Int.le_trans (Int.le_add_of_nonneg_right ∅) (h1 k hk),aaM.mpr ⟨λk hk=>h1 k hk,h2⟩⟩
  | false =>
   rw [GS]
   exact ⟨λk hk=>Int.le_trans (Int.le_add_of_nonneg_right ∅) (h1 k hk),h2⟩
section
variable {col:Nat->Nat} {H:Hp} {p len:Int} {xs:List Int} {ri o za:Nat} {r:Rm} {os:List (Int×Int)} {l:bw}
theorem OG.on (h:OG col H p len xs ri o za r os) {g:Int} {e:Int×Int} (he:e∈dP len (look r.ss) g):g*len<=e.1/\e.1<g*len+len:=by
 haveI hL:=h.r.ok.len
 rw [h.r.rl] at hL
 unfold dP at he
 cases hF:look r.ss g with
 | none=>rw [hF] at he;cases he
 | some v =>
  rw [hF] at he
  obtain ⟨k,hk,rfl⟩:=aag.mp he
  obtain ⟨j,rfl,hj⟩:=iK v.2 0 k hk
  rw [aa2]
  have hj:=(aab.mp hj).1
  obtain ⟨_,_,hz⟩:=h.page (z:=v.1) (bs:=v.2) hF hj
  obtain ⟨u1,u2⟩:=slot hL.1 hz (h.szok v.1 g _ hF rfl) hj
  dsimp only;exact id (⟨td 0x1c18009811 u1,Gl 0x23c13c9201c81019812 hz u2⟩)
theorem OG.asc (h:OG col H p len xs ri o za r os):(b7 p len (look r.ss)).Pairwise zd:=by
 rw [lb]
 haveI hL:=h.r.ok.len
 rw [h.r.rl] at hL
 refine List.pairwise_flatMap.mpr ⟨λg _=> ?_,(ik p).imp λ{a b} hab x hx y hy=>rk.mpr (.inl ?_)⟩
 ·unfold dP
  cases hF:look r.ss g with
  | none=>exact .nil
  | some v =>
   obtain ⟨s,hs,y1,y2⟩:=bn hF
   have hz:=(h.r.ok.szpos (aW hs).1).1
   rw [y1] at hz
   exact List.pairwise_map.mpr ((xA v.2 0).2.imp λ{a b} hab=>rk.mpr (.inl (by haveI:=uN hab hz;dsimp only;exact id (Gl 0x23c13c9201c81019812 hz this))))
 ·exact Int.lt_of_lt_of_le (h.on hx).2 (Int.le_trans (uN hab hL.1) (h.on hy).1)
theorem OG.srt (h:OG col H p len xs ri o za r os) (pm:os.Perm (b7 p len (look r.ss))):kK os=b7 p len (look r.ss):=(ve pm.symm h.asc).symm
end
inductive BV:V->Prop
 | b:BV (.bool true)
 | s1:BV (.str "1")
 | s2:BV (.str "2")
 | n:BV .none
theorem xF (H:Hp) {v:V} (h:BV v):nZ [v] H= .ok (.bool false) H:=by
 cases h<;>rfl
theorem Bd {bs:List Bool} {k:Int} (h:jF bs k=true):0<=k/\bs[k.toNat]? = some true:=by
 unfold jF at h
 by_cases h0:0<=k/\k<bs.length
 ·rw [if_pos h0] at h
  have hl:k.toNat<bs.length:=by exact kx 0x1101fa10f0912 h0.2 (aaq h0.1)
  rw [aak hl] at h ⊢
  exact ⟨h0.1,congrArg some h⟩
 ·rw [if_neg h0] at h;cases h
section
variable {H:Hp} {ri:Nat} {r:Rm} (hR:aN H ri r)
theorem IO {i:Nat} {v:V} (h:BV v):bV [.inst "Plan" i,v] H= .exc "BadWish" H:=by
 refine bz (aF ["self", "wish"] [.inst "Plan" i,v]) λl0 e0=> ?_
 haveI a2:l0 "wish" = some v:=e0▸rfl
 refine ce (m:=dW) (q:=⟨l0,H⟩) rfl (bY ?_)
 rw [e0]
 exists a2,xF H h
theorem GD {i:Nat} {v:V} (h:BV v):ee [.inst "Plan" i,v] H= .exc "NoSize" H:=by
 refine bz (aF ["self", "size"] [.inst "Plan" i,v]) λl0 e0=> ?_
 haveI a2:l0 "size" = some v:=e0▸rfl
 refine ce (m:=lE) (q:=⟨l0,H⟩) rfl (bY ?_)
 rw [e0]
 exists a2,xF H h
include hR
theorem I3 {v:V} {c:String} (h:bV [.inst "Plan" r.pl,v] H= .exc c H):cD [.inst "Room" ri,v] H= .exc c H:=by
 refine bz (aF ["self", "places"] [.inst "Room" ri,v]) λl0 e0=> ?_
 haveI a1:l0 "self" = some (.inst "Room" ri):=e0▸rfl
 haveI a2:l0 "places" = some v:=e0▸rfl
 refine ce (m:=fJ) (q:=⟨l0,H⟩) rfl (bY ?_)
 rw [e0]
 exact bx (bq (bq (g_get a1) (du hR _)) (bq (cZ hR.plan rfl) (bq (bq (g_get a2) (bq rfl rfl)) (cL h))))
theorem II {v:V} {c:String} (h:bV [.inst "Plan" r.pl,v] H= .exc c H):dg [.inst "Room" ri,v] H= .exc c H:=by
 refine bz (aF ["self", "places"] [.inst "Room" ri,v]) λl0 e0=> ?_
 haveI a1:l0 "self" = some (.inst "Room" ri):=e0▸rfl
 haveI a2:l0 "places" = some v:=e0▸rfl
 refine ce (m:=fu) (q:=⟨l0,H⟩) rfl (bY ?_)
 rw [e0]
 exact bx (bq (bq (g_get a1) (du hR _)) (bq (cZ hR.plan rfl) (bq (bq (g_get a2) (bq rfl rfl)) (cL h))))
theorem zK {v:V} (h:ee [.inst "Plan" r.pl,v] H= .exc "NoSize" H):dZ [.inst "Room" ri,v] H= .exc "NoSize" H:=by
 refine bz (aF ["self", "size"] [.inst "Room" ri,v]) λl0 e0=> ?_
 haveI a1:l0 "self" = some (.inst "Room" ri):=e0▸rfl
 haveI a2:l0 "size" = some v:=e0▸rfl
 refine ce (m:=jZ) (q:=⟨l0,H⟩) rfl (bY ?_)
 rw [e0]
 exact bx (bq (bq (g_get a1) (du hR _)) (bq (cZ hR.plan rfl) (bq (bq (g_get a2) (bq rfl rfl)) (cL h))))
theorem Ie {v:V} (h:di [.inst "Room" ri,v] H= .exc "NotOut" H):cc [.inst "Room" ri,v] H= .exc "NotOut" H:=by
 refine bz (aF ["self", "place"] [.inst "Room" ri,v]) λl0 e0=> ?_
 haveI a1:l0 "self" = some (.inst "Room" ri):=e0▸rfl
 haveI a2:l0 "place" = some v:=e0▸rfl
 refine ce (m:=gw) (q:=⟨l0,H⟩) rfl (bY ?_)
 rw [e0]
 exact bx (bq (g_get a1) (bq (aH hR ∅ _) (bq (bq (g_get a2) (bq rfl rfl)) (cL h))))
theorem El {v:V} {j:Int} (h:di [.inst "Room" ri,v] H= .exc "NotOut" H):dG [.inst "Room" ri,v,.int j] H= .exc "NotOut" H:=by
 refine bz (aF ["self", "place", "step"] [.inst "Room" ri,v,.int j]) λl0 e0=> ?_
 haveI a1:l0 "self" = some (.inst "Room" ri):=e0▸rfl
 haveI a2:l0 "place" = some v:=e0▸rfl
 refine ce (m:=jG) (q:=⟨l0,H⟩) rfl (bY ?_)
 rw [e0]
 exact bx (bx (bq (g_get a1) (bq (aH hR ∅ _) (bq (bq (g_get a2) (bq rfl rfl)) (cL h)))))
theorem Fy {v:V} {j:Int} {c:String} (h:dG [.inst "Room" ri,v,.int j] H= .exc c H):dH [.inst "Room" ri,v,.int j] H= .exc c H:=by
 refine bz (aF ["self", "place", "step"] [.inst "Room" ri,v,.int j]) λl0 e0=> ?_
 have a1:l0 "self" = some (.inst "Room" ri):=e0▸rfl
 haveI a2:l0 "place" = some v:=e0▸rfl
 haveI a3:l0 "step" = some (.int j):=e0▸rfl
 refine ce (m:=mX) (q:=⟨l0,H⟩) rfl ?_
 rw [e0]
 exact bx (bq (bq (g_get a1) (kI hR _)) (bx (bq (g_get a1) (bq (aH hR ∅ _) (bq (bq (g_get a2) (bq (bq (g_get a3) (bq rfl rfl)) rfl)) (cL h))))))
theorem C6 {v:V} {j x:Int} {c:String} (h:dG [.inst "Room" ri,v,.int j] H= .exc c H):dj [.inst "Room" ri,v,.int j,.int x] H= .exc c H:=by
 refine bz (aF ["self", "place", "step", "number"] [.inst "Room" ri,v,.int j,.int x]) λl0 e0=> ?_
 have a1:l0 "self" = some (.inst "Room" ri):=e0▸rfl
 haveI a2:l0 "place" = some v:=e0▸rfl
 haveI a3:l0 "step" = some (.int j):=e0▸rfl
 haveI a4:l0 "number" = some (.int x):=e0▸rfl
 refine ce (m:=lF) (q:=⟨l0,H⟩) rfl ?_
 rw [e0]
 exact bq (g_get a4) (bq (bq (g_get a1) (kI hR _)) (bx (bq (g_get a1) (bq (aH hR ∅ _) (bq (bq (g_get a2) (bq (bq (g_get a3) (bq rfl rfl)) rfl)) (cL h))))))
variable (hO:r.Ok)
include hO
theorem wR {g z:Int} {s:bG} (hf:d7 r.ss g=some s) (hz:s.sz=z) {k:Nat} (hk:s.bs[k]? = some true) {j:Int} (hj:¬(0<=j/\j<z)):dG [.inst "Room" ri,.int (g*r.len+k*z),.int j] H= .exc "OutOfThing" H:=by
 haveI hv:=yX hR hO hf hz hk
 haveI rs:=λl=>(nv hR (aW hf).1 l).1
 rw [hz] at rs
 refine bz (g*r.len+k*z) λpl epl=> ?_
 rw [epl] at hv ⊢
 refine bz (aF ["self", "place", "step"] [.inst "Room" ri,.int pl,.int j]) λl0 e0=> ?_
 haveI a1:l0 "self" = some (.inst "Room" ri):=e0▸rfl
 haveI a2:l0 "place" = some (.int pl):=e0▸rfl
 haveI a3:l0 "step" = some (.int j):=e0▸rfl
 refine bz (upd l0 "shelf" (.inst "Shelf" s.sh)) λl1 el1=> ?_
 haveI b1:l1 "shelf" = some (.inst "Shelf" s.sh):=aA el1
 have b3:l1 "step" = some (.int j):=ah el1 ∅ a3
 refine ce (m:=jG) (q:=⟨l1,H⟩) rfl ?_
 rw [e0]
 haveI it:∀q,aR (.tup [.inst "Shelf" s.sh,.int k]) (.int 0) q= .ok (.inst "Shelf" s.sh) q:=λq=>rfl
 refine ai (q':=⟨l1,H⟩) (by exists a1,a2,aH hR (f := "found") ⟨by decide,by decide,by decide⟩,hv,it,el1) (bY ?_)
 by_cases h0:0<=j
 ·haveI d0:decide ((0:Int)<=j)=true:=decide_eq_true h0
  haveI d1:decide (j<z)=false:=decide_eq_false λh=>hj ⟨h0,h⟩
  exists b3,d0,b1,rs,d1
 ·haveI d0:decide ((0:Int)<=j)=false:=decide_eq_false h0
  exists b3,d0
theorem EA {pl:Int} (hno:∀s∈r.ss,∀k:Nat,s.bs[k]? = some true->pl≠s.pg*r.len+k*s.sz):di [.inst "Room" ri,.int pl] H= .exc "NotOut" H:=by
 haveI hL:=hO.len
 have n1:r.len≠0:=by exact λx9=>bQ 0x9096090a1019812 hL.1 x9
 refine bz (pl.fdiv r.len) λg eg=> ?_
 refine bz (aF ["self", "place"] [.inst "Room" ri,.int pl]) λl0 e0=> ?_
 have a1:l0 "self" = some (.inst "Room" ri):=e0▸rfl
 have a2:l0 "place" = some (.int pl):=e0▸rfl
 refine bz (upd l0 "page" (.int g)) λl1 e1=> ?_
 have b1:=ah e1 ∅ a1
 haveI b2:=ah e1 ∅ a2
 have b3:=aA e1
 have t1:nE ⟨l0,H⟩= .ok .next ⟨l1,H⟩:=by exists a1,a2,du hR,uU hR,gk n1 eg,e1
 have hin:=λl=>CH hR g l
 cases hf:d7 r.ss g with
 | none =>
  rw [hf] at hin
  refine ce (m:=iA) (q:=⟨l1,H⟩) rfl ?_
  rw [e0]
  refine ai t1 (bY ?_)
  exists b1,b3,be hR,hin
 | some s =>
  rw [hf] at hin
  obtain ⟨hs,hp⟩:=aW hf
  have hS:=hR.shelf s hs
  haveI hz:=hO.szpos hs
  have n2:s.sz≠0:=by exact λx9=>bQ 0x9096090a1019812 hz.1 x9
  refine bz (pl.fmod r.len) λst est=> ?_
  refine bz (upd l1 "shelf" (.inst "Shelf" s.sh)) λl2 e2=> ?_
  refine bz (upd l2 "step" (.int st)) λl3 e3=> ?_
  haveI c1:=ah e2 ∅ b1
  haveI c2:=ah e2 ∅ b2
  have g1:l3 "shelf" = some (.inst "Shelf" s.sh):=ah e3 ∅ (aA e2)
  have g2:=aA e3
  have rs:=λl=>(nv hR hs l).1
  haveI hsh:∀l,dI "Shelf" "has" (.inst "Shelf" s.sh) ⟨l,H⟩= .ok () ⟨l,H⟩:=λl=>cZ hS.ob (BE _ _ _)
  refine ce (m:=iA) (q:=⟨l3,H⟩) rfl ?_
  rw [e0]
  refine ai t1 (ai (q':=⟨l1,H⟩) (by exists b1,b3,be hR,hin) (ai (q':=⟨l2,H⟩) (by exists b1,b3,be hR,cG hR hf,e2) (ai (q':=⟨l3,H⟩) (by exists c1,c2,du hR,uU hR,cW n1 est,e3) (bY ?_))))
  refine bz (st.fmod s.sz) λm em=> ?_
  by_cases hm:m=0
  ·haveI k1:∀q,ko (.int m) (.int 0) q= .ok true q:=λq=>oQ (decide_eq_true hm)
   refine bz (st.fdiv s.sz) λd ed=> ?_
   haveI hh:=FO hS (hO.bslen hs) d
   haveI hb:jF s.bs d=false:=by
    cases hg:jF s.bs d with
    | false=>rfl
    | true =>
     obtain ⟨d0,hk⟩:=Bd hg
     haveI f1:=Int.mul_fdiv_add_fmod pl r.len
     haveI f2:=Int.mul_fdiv_add_fmod st s.sz
     rw [eg,est] at f1
     rw [ed,em,hm,Int.add_zero] at f2
     refine absurd ?_ (hno s hs d.toNat hk)
     rw [hp,aaq d0,Int.mul_comm d,f2,Int.mul_comm g];exact f1.symm
   rw [hb] at hh
   exists g1,g2,rs,cW n2 em,k1,hsh,gk n2 ed,hh
  ·haveI k1:∀q,ko (.int m) (.int 0) q= .ok false q:=λq=>oQ (decide_eq_false hm)
   exists g1,g2,rs,cW n2 em,k1
end
section
variable {col:Nat->Nat} {H:Hp} {p len:Int} {xs:List Int} {ri o za:Nat} {r:Rm} {os:List (Int×Int)} {l:bw}
theorem OG.inj (h:OG col H p len xs ri o za r os) {e e':Int×Int} (he:e∈b7 p len (look r.ss)) (he':e'∈b7 p len (look r.ss)) {t t':Int} (ht:0<=t/\t<e.2) (ht':0<=t'/\t'<e'.2) (hq:e.1+t=e'.1+t'):e=e':=by
 have hL:=h.r.ok.len
 rw [h.r.rl] at hL
 obtain ⟨g,z,bs,j,hF,hj,rfl⟩:=lS he
 obtain ⟨g',z',bs',j',hF',hj',rfl⟩:=lS he'
 have lj:=(aab.mp hj).1
 have lj':=(aab.mp hj').1
 obtain ⟨u1,u2⟩:=slot hL.1 (h.page hF lj).2.2 (h.szok z g _ hF rfl) lj
 obtain ⟨v1,v2⟩:=slot hL.1 (h.page hF' lj').2.2 (h.szok z' g' _ hF' rfl) lj'
 have hz:=(h.page hF lj).2.2
 dsimp only at ht ht' hq
 rcases Int.lt_trichotomy g g' with hlt | rfl | hlt
 ·haveI:=uN hlt hL.1;exact id ((hH [] [_,_,_,_,_,_,_,_] 0x9096573c8160981714c81265cc043ccb12098110916 ht.2 ht'.1 hq u2 v1 this).elim)
 ·rw [hF] at hF'
  cases hF'
  rcases Nat.lt_trichotomy j j' with hjk | rfl | hjk
  ·haveI:=uN (a:=j) (b:=j') (by exact cM 0x1f0f910111 hjk) hz;exact id ((hH [] [_,_,_,_,_,_] 0x9096514c81253cc043ccb12098110914 ht.2 ht'.1 hq this).elim)
  ·rfl
  ·haveI:=uN (a:=j') (b:=j) (by exact cM 0x1f0f910111 hjk) hz;exact id ((hH [] [_,_,_,_,_,_] 0x9096425c81153cc043cca12191009814 ht.1 ht'.2 hq this).elim)
 ·haveI:=uN hlt hL.1;exact id ((hH [] [_,_,_,_,_,_,_,_] 0x9096375c81726c8140981165cc043cca12191009816 ht.1 ht'.2 hq u1 v2 this).elim)
end
inductive Cd:String->String->Prop
 | wish:Cd "BadWish" "wish"
 | large:Cd "TooLarge" "large"
 | out:Cd "NotOut" "out"
 | step:Cd "OutOfThing" "step"
 | size:Cd "NoSize" "size"
inductive Cr:String->String->Prop
 | cd {c d:String} (h:Cd c d):Cr c d
 | room:Cr "NoRoom" "room"
section
variable {H H':Hp} {a b c d e v:V}
theorem EB (h:bT [a,b,c,d,e] H= .ok v H'):jB [a,b,c,d,e] H= .ok (.str "") H' :=
 aU (m:=mZ) (q:=⟨aF ["_law_room", "_law_way", "_law_place", "_law_step_here", "_law_cell"] [a,b,c,d,e],H'⟩) rfl (ai (Ho (bq (bq rfl (g_call h)) rfl)) rfl)
theorem Ci {x y:String} (hc:Cr x y) (h:bT [a,b,c,d,e] H= .exc x H'):jB [a,b,c,d,e] H= .ok (.str y) H':=by
 refine aU (m:=mZ) (q:=⟨λ_=>none,H'⟩) rfl (bB (xY (bx (bq rfl (cL h))) ?_))
 cases hc with
 | room=>rfl
 | cd hc=>cases hc<;>rfl
theorem qd (y:String) (l:bw):aR (.ref H.length) (.int 1) ⟨l,H++[.list [.str "",.str y]]⟩= .ok (.str y) ⟨l,H++[.list [.str "",.str y]]⟩:=dL (aY _ _) ∅ ∅ rfl
theorem JU {x y:String} (hc:Cd x y) (h:bT [a,b,c,d,e] H= .exc x H'):∃H2,jU [a,b,c,d,e] H= .ok (.str y) H2/\H'<+:H2:=by
 refine ⟨_,aU (m:=oS) (q:=⟨λ_=>none,H'++[.list [.str "",.str y]]⟩) rfl (bB (xY (bx (bq rfl (cL h))) ?_)),aap _ _⟩
 cases hc with
 | wish=>rw [if_pos rfl];exact bq rfl (bq (bq (bq (bq rfl rfl) (bq rfl (qd _ _))) rfl) rfl)
 | large=>rw [if_neg ∅,if_pos rfl];exact bq rfl (bq (bq (bq (bq rfl rfl) (bq rfl (qd _ _))) rfl) rfl)
 | size=>rw [if_neg ∅,if_neg ∅,if_pos rfl];exact bq rfl (bq (bq (bq (bq rfl rfl) (bq rfl (qd _ _))) rfl) rfl)
 | out=>rw [if_neg ∅,if_neg ∅,if_neg ∅,if_pos rfl];exact bq rfl (bq (bq (bq (bq rfl rfl) (bq rfl (qd _ _))) rfl) rfl)
 | step=>rw [if_neg ∅,if_neg ∅,if_neg ∅,if_neg ∅,if_pos rfl];exact bq rfl (bq (bq (bq (bq rfl rfl) (bq rfl (qd _ _))) rfl) rfl)
end
structure HI (f g:qT Hp V):Prop where
 ok:∀ {v:V} {H':Hp},g= .ok v H'->f= .ok v H'
 x:∀ {c:String} {H':Hp},g= .exc c H'->f= .exc c H'
inductive DO (fx:qT Hp V) (H:Hp) (way:Int):String->Prop
 | x {c d:String} {H':Hp} (hc:Cd c d) (e:fx= .exc c H') (p:H<+:H'):DO fx H way d
 | ok {v:V} {H':Hp} (e:fx= .ok v H') (p:way=1->H<+:H'):DO fx H way ""
 | room {H':Hp} (e:fx= .exc "NoRoom" H') (w:way=0):DO fx H way ""
theorem DO.fwd {f g:qT Hp V} {H H1:Hp} {way:Int} {d:String} (p:H<+:H1) (F:HI f g) (h:DO g H1 way d):DO f H way d:=by
 cases h with
 | x hc e q=>exact .x hc (F.x e) (p.trans q)
 | ok e q=>exact .ok (F.ok e) λw=>p.trans (q w)
 | room e w=>exact .room (F.x e) w
noncomputable def wl (pv:V) (cell:Int):List V:=[pv,.bool true,.str "2",.none,.int 0,.int (-1-cell.fmod 99)]
noncomputable def yl (pv:V):List V:=[pv,.int 0,.int 0,.int 0,.int 0,.int (-1)]
section
variable {H:Hp} {ri:Nat} {r:Rm} (hR:aN H ri r) {pv w:V} {st cell:Int}
include hR
theorem B3 (hw:(wl pv cell)[(cell.fmod 6).toNat]? = some w):HI (bT [.inst "Room" ri,.int 0,pv,.int st,.int cell] H) (cD [.inst "Room" ri,w] (H++[.list (wl pv cell)])):=by
 have k:=bj cell 6 ∅
 have it:∀l,aR (.ref H.length) (.int (cell.fmod 6)) ⟨l,H++[.list (wl pv cell)]⟩= .ok w ⟨l,H++[.list (wl pv cell)]⟩:=λl=>dL (aY _ _) k.1 (by exact bQ 0xf4240a09690911 k.2) hw
 exact ⟨λ{v H'} e=>aU (m:=ck) (q:=⟨aF ["_law_room", "_law_way", "_law_place", "_law_step_here", "_law_cell"] [.inst "Room" ri,.int 0,pv,.int st,.int cell],H'⟩) rfl (bB (bq (a:=true) rfl (it_t rfl (bq (bq rfl (bq (aH hR ∅ _) (bq (bq (bq (bq (a:=wl pv cell) rfl rfl) (bq rfl (it _))) (bq rfl rfl)) (g_call e)))) rfl)))),
  λ{c H'} e=>ce (m:=ck) (q:=⟨aF ["_law_room", "_law_way", "_law_place", "_law_step_here", "_law_cell"] [.inst "Room" ri,.int 0,pv,.int st,.int cell],H'⟩) rfl (bY (bq (a:=true) rfl (it_t rfl (bx (bq rfl (bq (aH hR ∅ _) (bq (bq (bq (bq (a:=wl pv cell) rfl rfl) (bq rfl (it _))) (bq rfl rfl)) (cL e))))))))⟩
theorem B7 (hw:(wl pv cell)[(cell.fmod 6).toNat]? = some w):HI (bT [.inst "Room" ri,.int 1,pv,.int st,.int cell] H) (dg [.inst "Room" ri,w] (H++[.list (wl pv cell)])):=by
 have k:=bj cell 6 ∅
 have it:∀l,aR (.ref H.length) (.int (cell.fmod 6)) ⟨l,H++[.list (wl pv cell)]⟩= .ok w ⟨l,H++[.list (wl pv cell)]⟩:=λl=>dL (aY _ _) k.1 (by exact bQ 0xf4240a09690911 k.2) hw
 exact ⟨λ{v H'} e=>aU (m:=ck) (q:=⟨aF ["_law_room", "_law_way", "_law_place", "_law_step_here", "_law_cell"] [.inst "Room" ri,.int 1,pv,.int st,.int cell],H'⟩) rfl (ai rfl (bB (bq (a:=true) rfl (it_t rfl (bq (bq rfl (bq (aH hR ∅ _) (bq (bq (bq (bq (a:=wl pv cell) rfl rfl) (bq rfl (it _))) (bq rfl rfl)) (g_call e)))) rfl))))),
  λ{c H'} e=>ce (m:=ck) (q:=⟨aF ["_law_room", "_law_way", "_law_place", "_law_step_here", "_law_cell"] [.inst "Room" ri,.int 1,pv,.int st,.int cell],H'⟩) rfl (ai rfl (bY (bq (a:=true) rfl (it_t rfl (bx (bq rfl (bq (aH hR ∅ _) (bq (bq (bq (bq (a:=wl pv cell) rfl rfl) (bq rfl (it _))) (bq rfl rfl)) (cL e)))))))))⟩
theorem B8:HI (bT [.inst "Room" ri,.int 2,pv,.int st,.int cell] H) (cc [.inst "Room" ri,pv] H) :=
 ⟨λ{v H'} e=>aU (m:=ck) (q:=⟨aF ["_law_room", "_law_way", "_law_place", "_law_step_here", "_law_cell"] [.inst "Room" ri,.int 2,pv,.int st,.int cell],H'⟩) rfl (ai rfl (ai rfl (bB (bq (a:=true) rfl (it_t rfl (bq (bq rfl (bq (aH hR ∅ _) (bq rfl (g_call e)))) rfl)))))),
  λ{c H'} e=>ce (m:=ck) (q:=⟨aF ["_law_room", "_law_way", "_law_place", "_law_step_here", "_law_cell"] [.inst "Room" ri,.int 2,pv,.int st,.int cell],H'⟩) rfl (ai rfl (ai rfl (bY (bq (a:=true) rfl (it_t rfl (bx (bq rfl (bq (aH hR ∅ _) (bq rfl (cL e)))))))))) ⟩
theorem B9:HI (bT [.inst "Room" ri,.int 3,pv,.int st,.int cell] H) (dH [.inst "Room" ri,pv,.int st] H) :=
 ⟨λ{v H'} e=>aU (m:=ck) (q:=⟨aF ["_law_room", "_law_way", "_law_place", "_law_step_here", "_law_cell"] [.inst "Room" ri,.int 3,pv,.int st,.int cell],H'⟩) rfl (ai rfl (ai rfl (ai rfl (bB (bq (a:=true) rfl (it_t rfl (bq (bq rfl (bq (aH hR ∅ _) (bq rfl (g_call e)))) rfl))))))),
  λ{c H'} e=>ce (m:=ck) (q:=⟨aF ["_law_room", "_law_way", "_law_place", "_law_step_here", "_law_cell"] [.inst "Room" ri,.int 3,pv,.int st,.int cell],H'⟩) rfl (ai rfl (ai rfl (ai rfl (bY (bq (a:=true) rfl (it_t rfl (bx (bq rfl (bq (aH hR ∅ _) (bq rfl (cL e))))))))))) ⟩
theorem Ca:HI (bT [.inst "Room" ri,.int 4,pv,.int st,.int cell] H) (dj [.inst "Room" ri,pv,.int st,.int cell] H) :=
 ⟨λ{v H'} e=>aU (m:=ck) (q:=⟨aF ["_law_room", "_law_way", "_law_place", "_law_step_here", "_law_cell"] [.inst "Room" ri,.int 4,pv,.int st,.int cell],H'⟩) rfl (ai rfl (ai rfl (ai rfl (ai rfl (bB (bq (a:=true) rfl (it_t rfl (bq (bq rfl (bq (aH hR ∅ _) (bq rfl (g_call e)))) rfl)))))))),
  λ{c H'} e=>ce (m:=ck) (q:=⟨aF ["_law_room", "_law_way", "_law_place", "_law_step_here", "_law_cell"] [.inst "Room" ri,.int 4,pv,.int st,.int cell],H'⟩) rfl (ai rfl (ai rfl (ai rfl (ai rfl (bY (bq (a:=true) rfl (it_t rfl (bx (bq rfl (bq (aH hR ∅ _) (bq rfl (cL e)))))))))))) ⟩
theorem Cb:HI (bT [.inst "Room" ri,.int 5,pv,.int st,.int cell] H) (dZ [.inst "Room" ri,pv] H) :=
 ⟨λ{v H'} e=>aU (m:=ck) (q:=⟨aF ["_law_room", "_law_way", "_law_place", "_law_step_here", "_law_cell"] [.inst "Room" ri,.int 5,pv,.int st,.int cell],H'⟩) rfl (ai rfl (ai rfl (ai rfl (ai rfl (ai rfl (bq (bq rfl (bq (aH hR ∅ _) (bq rfl (g_call e)))) rfl)))))),
  λ{c H'} e=>ce (m:=ck) (q:=⟨aF ["_law_room", "_law_way", "_law_place", "_law_step_here", "_law_cell"] [.inst "Room" ri,.int 5,pv,.int st,.int cell],H'⟩) rfl (ai rfl (ai rfl (ai rfl (ai rfl (ai rfl (bx (bq rfl (bq (aH hR ∅ _) (bq rfl (cL e))))))))) ) ⟩
end
inductive DW (p len:Int) (xs:List Int) (ri o za:Nat) (os:List (Int×Int)) (H:Hp) (way:Int) (pv:V) (st cell:Int):Prop
 | mk (d:String) (H1:Hp) (e:iH [.ref za,.ref o,.int way,pv,.int st,.int cell] H= .ok (.str d) H1) (p1:H<+:H1)
  (k:∀ {col2:Nat->Nat} {H2:Hp} {r2:Rm},OG col2 H2 p len xs ri o za r2 os->os.Perm (b7 p len (look r2.ss))->DO (bT [.inst "Room" ri,.int way,pv,.int st,.int cell] H2) H2 way d)
inductive WY (pl cell:Int):Prop
 | bad (w:V) (y:Int) (a:(wl (.int pl) cell)[(cell.fmod 6).toNat]? = some w) (b:(yl (.int pl))[(cell.fmod 6).toNat]? = some (.int y)) (hy:y<1) (hw:BV w\/ ∃i,w= .int i/\i<1):WY pl cell
 | good (a:(wl (.int pl) cell)[(cell.fmod 6).toNat]? = some (.int pl)) (b:(yl (.int pl))[(cell.fmod 6).toNat]? = some (.int pl)) (hy:1<=pl):WY pl cell
theorem wy (pl cell:Int):WY pl cell:=by
 have k:=bj cell 6 ∅
 haveI k9:=bj cell 99 ∅
 refine bz ((cell.fmod 6).toNat) λm em=> ?_
 haveI hm:m<6:=by exact kx 0x691100fa11031690913 k.2 em (aaq k.1)
 match m,hm,em with
 | 0,_,em =>
  by_cases hp:pl<1
  ·exact .bad (.int pl) pl (by rw [em];rfl) (by rw [em];rfl) hp (.inr ⟨pl,rfl,hp⟩)
  ·exact .good (by rw [em];rfl) (by rw [em];rfl) (by exact bQ 0x198190d11 hp)
 | 1,_,em=>exact .bad _ 0 (by rw [em];rfl) (by rw [em];rfl) ∅ (.inl .b)
 | 2,_,em=>exact .bad _ 0 (by rw [em];rfl) (by rw [em];rfl) ∅ (.inl .s2)
 | 3,_,em=>exact .bad _ 0 (by rw [em];rfl) (by rw [em];rfl) ∅ (.inl .n)
 | 4,_,em=>exact .bad _ 0 (by rw [em];rfl) (by rw [em];rfl) ∅ (.inr ⟨0,rfl,by decide⟩)
 | 5,_,em=>exact .bad _ (-1) (by rw [em];rfl) (by rw [em];rfl) ∅ (.inr ⟨_,rfl,by exact bQ 0x190191be9009811 k9.1⟩)
section
variable {col:Nat->Nat} {H:Hp} {p len:Int} {xs:List Int} {ri o za:Nat} {r:Rm} {os:List (Int×Int)} {l:bw} {way pl st cell:Int}
theorem IN (h:OG col H p len xs ri o za r os) {w:V} (hw:BV w\/ ∃i,w= .int i/\i<1):bV [.inst "Plan" r.pl,w] H= .exc "BadWish" H:=by
 rcases hw with hw | ⟨i,rfl,hi⟩
 ·exact IO hw
 ·rw [pQ H r.pl r.p r.len r.xs i h.r.rm.isPlan,if_pos hi]
theorem Er (hw:way<2) {y:Int} (hz:H[za]? = some (.list (xs.map V.int))) (b:(yl (.int pl))[(cell.fmod 6).toNat]? = some (.int y)) :
  ∃H1,iH [.ref za,.ref o,.int way,.int pl,.int st,.int cell] H= .ok (.str (if y<1 then "wish" else if (xs.find? λx=>decide (x>=y)).getD 0=0 then "large" else "")) H1/\H<+:H1:=by
 refine oE λG kG=> ?_
 refine bz (aF ["_law_sizes", "_law_out", "_law_way", "_law_place", "_law_step_here", "_law_cell"] [.ref za,.ref o,.int way,.int pl,.int st,.int cell]) λl0 e0=> ?_
 haveI a1:l0 "_law_sizes" = some (.ref za):=e0▸rfl
 haveI a2:l0 "_law_way" = some (.int way):=e0▸rfl
 haveI a3:l0 "_law_place" = some (.int pl):=e0▸rfl
 haveI a4:l0 "_law_cell" = some (.int cell):=e0▸rfl
 have k:=bj cell 6 ∅
 haveI k0:decide (way<2)=true:=decide_eq_true hw
 refine bz (H++[O.list (yl (.int pl))]) λH1 eH1=> ?_
 haveI it:aR (.ref H.length) (.int (cell.fmod 6)) ⟨l0,H1⟩= .ok (.int y) ⟨l0,H1⟩:=by rw [<- eH1];exact dL (aY _ _) k.1 (by exact bQ 0xf4240a09690911 k.2) b
 haveI nl:dr (yl (.int pl)) ⟨l0,H⟩= .ok (.ref H.length) ⟨l0,H1⟩:=by rw [<- eH1];rfl
 haveI md:∀q,bD (.int cell) (.int 6) q= .ok (.int (cell.fmod 6)) q:=λq=>cW ∅ rfl
 refine bz (upd l0 "_law_wish" (.int y)) λl1 e1=> ?_
 have p1:H<+:H1:=⟨_,eH1⟩
 have b1:=ah e1 ∅ a1
 have b2:=aA e1
 have gv:∀ {d:String} {H2:Hp},H1<+:H2->(if y<1 then "wish" else if (xs.find? λx=>decide (x>=y)).getD 0=0 then "large" else "")=d->aw (((af "_law_wish").b λv23=>(Cm.p (V.int 1)).b λv24=>(dE .Lt v23 v24).b λx25=>Cm.p x25).b λb27=>if b27 then ((Cm.p (V.str "wish")).b λv26=>Cm.p (Fl.ret v26)) else (Cm.p Fl.next)) (((((Cm.p (V.str "")).b λv30=>((Cm.p (V.str "large")).b λv28=>(Cm.p ([]:List V)).b λvs29=>Cm.p (v28::vs29)).b λvs31=>Cm.p (v30::vs31)).b λvs32=>dr vs32).b λv33=>((((((af "_law_sizes").b λv39=>((af "_law_wish").b λv37=>(Cm.p ([]:List V)).b λvs38=>Cm.p (v37::vs38)).b λvs40=>Cm.p (v39::vs40)).b λvs36=>br (fg) vs36).b λv41=>(Cm.p (V.int 0)).b λv42=>(dE .Eq v41 v42).b λx43=>Cm.p (V.bool x43)).b λv44=>(Cm.p ([]:List V)).b λvs45=>Cm.p (v44::vs45)).b λvs35=>oF vs35).b λv34=>aR v33 v34).b λv46=>Cm.p (Fl.ret v46)) ⟨l1,H1⟩= .ok (.ret (.str d)) ⟨l1,H2⟩->G:=λ{d H2} pp ed t=>by
  refine kG ⟨H2,?_,p1.trans pp⟩
  rw [ed]
  refine aU (m:=kt) (q:=⟨l1,H2⟩) rfl ?_
  rw [e0]
  exact bB (bq (a:=true) (q':=⟨l0,H⟩) (bq (g_get a2) (bq rfl (bq (g_clt k0) rfl))) (it_t rfl (ai (q':=⟨l1,H1⟩) (bq (bq (bq (bq (g_get a3) rfl) nl) (bq (bq (g_get a4) (bq rfl (md _))) it)) (bq (g_set e1) rfl)) t)))
 by_cases hy:y<1
 ·haveI k1:decide (y<1)=true:=decide_eq_true hy
  refine gv (aac _) (if_pos hy) (bB ?_)
  exists b2,k1
 ·haveI k1:decide (y<1)=false:=decide_eq_false hy
  have t2:(((af "_law_wish").b λv23=>(Cm.p (V.int 1)).b λv24=>(dE .Lt v23 v24).b λx25=>Cm.p x25).b λb27=>if b27 then ((Cm.p (V.str "wish")).b λv26=>Cm.p (Fl.ret v26)) else (Cm.p Fl.next)) ⟨l1,H1⟩= .ok .next ⟨l1,H1⟩:=by exists b2,k1
  refine bz (H1++[O.list [.str "",.str "large"]]) λH2 eH2=> ?_
  have p2:H1<+:H2:=⟨_,eH2⟩
  have nl2:dr [.str "",.str "large"] ⟨l1,H1⟩= .ok (.ref H1.length) ⟨l1,H2⟩:=by rw [<- eH2];rfl
  have sb:=xm (aG (p1.trans p2) hz) y
  refine bz ((xs.find? λx=>decide (x>=y)).getD 0) λz ez=> ?_
  rw [ez] at sb gv
  have x2:H2[H1.length]? = some (.list [.str "",.str "large"]):=by rw [<- eH2];exact aY _ _
  by_cases h0:z=0
  ·haveI k2:decide (z=0)=true:=decide_eq_true h0
   haveI iv:∀q,oF [.bool true] q= .ok (.int 1) q:=λq=>rfl
   haveI i2:aR (.ref H1.length) (.int 1) ⟨l1,H2⟩= .ok (.str "large") ⟨l1,H2⟩:=dL x2 ∅ ∅ rfl
   refine gv p2 ((if_neg hy).trans (if_pos h0)) (ai t2 ?_)
   exists nl2,b1,b2,sb,k2,iv,i2
  ·haveI k2:decide (z=0)=false:=decide_eq_false h0
   haveI iv:∀q,oF [.bool false] q= .ok (.int 0) q:=λq=>rfl
   haveI i2:aR (.ref H1.length) (.int 0) ⟨l1,H2⟩= .ok (.str "") ⟨l1,H2⟩:=dL x2 ∅ ∅ rfl
   refine gv p2 ((if_neg hy).trans (if_neg h0)) (ai t2 ?_)
   exists nl2,b1,b2,sb,k2,iv,i2
theorem I2 (h:OG col H p len xs ri o za r os) (hw:way=0\/way=1):DW p len xs ri o za os H way (.int pl) st cell:=by
 have hl:way<2:=hw.elim (λe=>e▸by decide) λe=>e▸by decide
 cases wy pl cell with
 | bad w y a b hy ho =>
  obtain ⟨H1,e,p1⟩:=Er (o:=o) (st:=st) hl h.z b
  rw [if_pos hy] at e
  refine .mk _ H1 e p1 λ{col2 H2 r2} h2 _=> ?_
  have pp:=aap H2 [O.list (wl (.int pl) cell)]
  have g2:=(h2.pre pp).1
  have sf:=IN g2 ho
  rcases hw with rfl | rfl
  ·exact .fwd pp (B3 h2.r.rm a) (.x .wish (I3 g2.r.rm sf) (aac _))
  ·exact .fwd pp (B7 h2.r.rm a) (.x .wish (II g2.r.rm sf) (aac _))
 | good a b hy =>
  obtain ⟨H1,e,p1⟩:=Er (o:=o) (st:=st) hl h.z b
  rw [if_neg (by exact bQ 0x190d019811 hy)] at e
  refine .mk _ H1 e p1 λ{col2 H2 r2} h2 _=> ?_
  have pp:=aap H2 [O.list (wl (.int pl) cell)]
  have g2:=(h2.pre pp).1
  rcases hw with rfl | rfl
  ·refine .fwd pp (B3 h2.r.rm a) ?_
   have v:=g2.wish hy
   cases hf:xs.find? (λx=>decide (x>=pl)) with
   | none=>rw [hf] at v;rw [if_pos (show (none:Option Int).getD 0=0 from rfl)];exact .x .large v (aac _)
   | some z =>
    rw [hf] at v
    haveI hz1:=h.sz.low z (aaE hf)
    rw [if_neg (show ¬(some z).getD 0=0 from λe:z=0=>by exact bQ 0x9096090a1019812 hz1 e)]
    dsimp only at v
    cases hp:Af p len (look r2.ss) z with
    | none=>rw [hp] at v;obtain ⟨H',v1,_⟩:=v;exact .room v1 rfl
    | some _=>rw [hp] at v;obtain ⟨_,_,_,_,H',_,_,_,_,v1,_⟩:=v;exact .ok v1 λe=>by cases e
  ·refine .fwd pp (B7 h2.r.rm a) ?_
   have v:=BL g2.r.rm g2.r.ok hy
   rw [g2.r.rx] at v
   cases hf:xs.find? (λx=>decide (x>=pl)) with
   | none=>rw [hf] at v;rw [if_pos (show (none:Option Int).getD 0=0 from rfl)];exact .x .large v (aac _)
   | some z =>
    rw [hf] at v
    haveI hz1:=h.sz.low z (aaE hf)
    rw [if_neg (show ¬(some z).getD 0=0 from λe:z=0=>by exact bQ 0x9096090a1019812 hz1 e)]
    obtain ⟨H',v1,p2⟩:=v
    exact .ok v1 λ_=>p2
end
noncomputable def tc (way st z:Int):String:=if way>2/\ ¬(0<=st/\st<z) then "step" else ""
structure UL (o:Nat) (way pl st:Int) (l:bw):Prop where
 w:l "_law_way" = some (.int way)
 p:l "_law_place" = some (.int pl)
 s:l "_law_step_here" = some (.int st)
section
variable {col:Nat->Nat} {H:Hp} {p len:Int} {xs:List Int} {ri o za:Nat} {r:Rm} {os:List (Int×Int)} {l:bw} {way pl st cell:Int}
theorem Gf {z:Int} (hl:UL o way pl st l) (b:l "_law_pair" = some (.tup [.int pl,.int z])):∃H',jv ⟨l,H⟩= .ok (.ret (.str (tc way st z))) ⟨l,H'⟩/\H<+:H':=by
 have d0:∀q,aR (.tup [.int pl,.int z]) (.int 0) q= .ok (.int pl) q:=λq=>rfl
 have d1:∀q,aR (.tup [.int pl,.int z]) (.int 1) q= .ok (.int z) q:=λq=>rfl
 have k0:decide (pl=pl)=true:=decide_eq_true rfl
 refine bz (H++[O.list [.str "",.str "step"]]) λH1 eH1=> ?_
 have nl:dr [.str "",.str "step"] ⟨l,H⟩= .ok (.ref H.length) ⟨l,H1⟩:=by rw [<- eH1];rfl
 have x1:H1[H.length]? = some (.list [.str "",.str "step"]):=by rw [<- eH1];exact aY _ _
 have i0:aR (.ref H.length) (.int 0) ⟨l,H1⟩= .ok (.str "") ⟨l,H1⟩:=dL x1 ∅ ∅ rfl
 have i1:aR (.ref H.length) (.int 1) ⟨l,H1⟩= .ok (.str "step") ⟨l,H1⟩:=dL x1 ∅ ∅ rfl
 haveI v0:∀q,oF [.bool false] q= .ok (.int 0) q:=λq=>rfl
 haveI v1:∀q,oF [.bool true] q= .ok (.int 1) q:=λq=>rfl
 refine ⟨H1,?_,⟨_,eH1⟩⟩
 by_cases hw:way>2
 ·have k1:decide (way>2)=true:=decide_eq_true hw
  by_cases h0:0<=st
  ·have k2:decide ((0:Int)<=st)=true:=decide_eq_true h0
   by_cases h1:st<z
   ·haveI k3:decide (st<z)=true:=decide_eq_true h1
    haveI e:tc way st z = "" := if_neg λh=>h.2 ⟨h0,h1⟩
    rw [e]
    exists b,d0,hl.p,k0,nl,hl.w,k1,hl.s,k2,d1,k3
    exact i0
   ·haveI k3:decide (st<z)=false:=decide_eq_false h1
    haveI e:tc way st z = "step" := if_pos ⟨hw,λh=>h1 h.2⟩
    rw [e]
    exists b,d0,hl.p,k0,nl,hl.w,k1,hl.s,k2,d1,k3
    exact i1
  ·haveI k2:decide ((0:Int)<=st)=false:=decide_eq_false h0
   haveI e:tc way st z = "step" := if_pos ⟨hw,λh=>h0 h.1⟩
   rw [e]
   exists b,d0,hl.p,k0,nl,hl.w,k1,hl.s,k2
   exact i1
 ·haveI k1:decide (way>2)=false:=decide_eq_false hw
  haveI e:tc way st z = "" := if_neg λh=>hw h.1
  rw [e]
  exists b,d0,hl.p,k0,nl,hl.w,k1,v0,i0
theorem zv {cs:List V} (ho:H[o]? = some (.list cs)):∀(es:List (Int×Int)) {l:bw},UL o way pl st l ->
  ∃l' H',dS (λH=>ay (.ref o) H=some cs) (a9 "_law_pair") (jv) (es.map aD) ⟨l,H⟩= .ok (match es.find? λe=>decide (e.1=pl) with | some e=> .ret (.str (tc way st e.2)) | none=> .next) ⟨l',H'⟩/\H<+:H'
 | [],l,_=>⟨l,H,rfl,aac _⟩
 | e::es,l,hl=>by
  refine oE λG kG=> ?_
  refine bz (upd l "_law_pair" (.tup [.int e.1,.int e.2])) λl1 e1=> ?_
  have L1:UL o way pl st l1:=⟨ah e1 ∅ hl.w,ah e1 ∅ hl.p,ah e1 ∅ hl.s⟩
  have b:=aA e1
  by_cases he:e.1=pl
  ·rw [he] at b
   obtain ⟨H',t,p1⟩:=Gf (H:=H) L1 b
   rw [aaC (p:=λe:Int×Int=>decide (e.1=pl)) (decide_eq_true he)] at kG
   exact kG ⟨l1,H',uh (bq (g_set e1) t),p1⟩
  ·haveI d0:∀q,aR (.tup [.int e.1,.int e.2]) (.int 0) q= .ok (.int e.1) q:=λq=>rfl
   have k0:decide (e.1=pl)=false:=decide_eq_false he
   haveI tb:jv ⟨l1,H⟩= .ok .next ⟨l1,H⟩:=by exists b,d0,L1.p,k0
   obtain ⟨l2,H2,t2,p2⟩:=zv ho es L1
   rw [aay (p:=λe:Int×Int=>decide (e.1=pl)) (by rw [k0];exact aaW)] at kG
   exact kG ⟨l2,H2,(cg (bq (g_set e1) tb) (fW ho)).trans t2,p2⟩
theorem Gd (ho:H[o]? = some (.list (os.map aD))) (hw:2<=way/\way<=4):∃H1,iH [.ref za,.ref o,.int way,.int pl,.int st,.int cell] H= .ok (.str (match os.find? λe=>decide (e.1=pl) with | some e=>tc way st e.2 | none => "out")) H1/\H<+:H1:=by
 refine oE λG kG=> ?_
 refine bz (aF ["_law_sizes", "_law_out", "_law_way", "_law_place", "_law_step_here", "_law_cell"] [.ref za,.ref o,.int way,.int pl,.int st,.int cell]) λl0 e0=> ?_
 have L0:UL o way pl st l0:=⟨e0▸rfl,e0▸rfl,e0▸rfl⟩
 haveI a0:l0 "_law_out" = some (.ref o):=e0▸rfl
 haveI k1:decide (way<2)=false:=decide_eq_false (by exact bQ 0x290d029811 hw.1)
 haveI k2:decide (way=5)=false:=decide_eq_false (by exact λx9=>bQ 0x9096590b1490812 hw.2 x9)
 have t1:sQ ⟨l0,H⟩= .ok .next ⟨l0,H⟩:=by exists L0.w,k1
 have t2:sR ⟨l0,H⟩= .ok .next ⟨l0,H⟩:=by exists L0.w,k2
 obtain ⟨l',H',t3,p3⟩:=zv ho os L0
 have t4:sS ⟨l0,H⟩=_:=bq (bq (g_get a0) (pJ ho)) t3
 cases hf:os.find? λe=>decide (e.1=pl) with
 | some e =>
  rw [hf] at t4 kG
  exact kG ⟨H',aU (m:=kt) (q:=⟨l',H'⟩) rfl (by rw [e0];exact ai t1 (ai t2 (bB t4))),p3⟩
 | none =>
  rw [hf] at t4 kG
  exact kG ⟨H',aU (m:=kt) (q:=⟨l',H'⟩) rfl (by rw [e0];exact ai t1 (ai t2 (ai t4 rfl))),p3⟩
theorem Bb (h:OG col H p len xs ri o za r os) (pm:os.Perm (b7 p len (look r.ss))) (hn:∀e∈os,e.1≠pl):di [.inst "Room" ri,.int pl] H= .exc "NotOut" H :=
 EA h.r.rm h.r.ok λs hs k hk e=>by
  have hF:look r.ss s.pg=some (s.sz,s.bs):=by unfold look;rw [jE h.r.ok.ndp hs];rfl
  haveI hm:=(Ax (len:=len) (h.inr _ _ hF) hF hk).mem_iff.mpr (.head _)
  rw [h.r.rl] at e
  exact hn _ (pm.mem_iff.mpr hm) e.symm
theorem GY (h:OG col H p len xs ri o za r os) (hw:way=2\/way=3\/way=4):DW p len xs ri o za os H way (.int pl) st cell:=by
 obtain ⟨H1,e,p1⟩:=Gd (za:=za) (pl:=pl) (st:=st) (cell:=cell) h.o (way:=way) (by rcases hw with rfl | rfl | rfl<;>decide)
 cases hf:os.find? λe=>decide (e.1=pl) with
 | none =>
  rw [hf] at e
  refine .mk _ H1 e p1 λ{col2 H2 r2} h2 pm2=> ?_
  have fn:=Bb h2 pm2 (pl:=pl) λe he hc=>by
   haveI:=List.find?_eq_none.mp hf e he
   rw [decide_eq_true hc] at this;exact this rfl
  rcases hw with rfl | rfl | rfl
  ·exact .fwd (aac _) (B8 h2.r.rm) (.x .out (Ie h2.r.rm fn) (aac _))
  ·exact .fwd (aac _) (B9 h2.r.rm) (.x .out (Fy h2.r.rm (El h2.r.rm fn)) (aac _))
  ·exact .fwd (aac _) (Ca h2.r.rm) (.x .out (C6 h2.r.rm (El h2.r.rm fn)) (aac _))
 | some t =>
  rw [hf] at e
  refine .mk _ H1 e p1 λ{col2 H2 r2} h2 pm2=> ?_
  have ht:=aaE hf
  haveI hp:t.1=pl:=of_decide_eq_true (List.find?_some (p:=λe:Int×Int=>decide (e.1=pl)) hf)
  obtain ⟨g,z,bs,j,hg,hj,rfl⟩:=lS (pm2.mem_iff.mp ht)
  obtain ⟨s,hs,y1,y2⟩:=ug hg
  rw [<- y2] at hj
  dsimp only at hp ⊢
  rw [<- hp,<- h2.r.rl]
  rcases hw with rfl | rfl | rfl
  ·haveI d:tc 2 st z = "" := if_neg λh=>absurd h.1 ∅
   rw [d]
   obtain ⟨r',H3,w1,_⟩:=sT h2.r.rm h2.r.ok hs y1 hj
   exact .fwd (aac _) (B8 h2.r.rm) (.ok w1 λe=>by cases e)
  ·refine .fwd (aac _) (B9 h2.r.rm) ?_
   by_cases hst:0<=st/\st<z
   ·rw [show tc 3 st z = "" from if_neg λh=>h.2 hst]
    obtain ⟨v,w1,_⟩:=FP h2.r.rm h2.r.ok hs y1 hj hst.1 hst.2
    exact .ok w1 λe=>by cases e
   ·rw [show tc 3 st z = "step" from if_pos ⟨by decide,hst⟩]
    exact .x .step (Fy h2.r.rm (wR h2.r.rm h2.r.ok hs y1 hj hst)) (aac _)
  ·refine .fwd (aac _) (Ca h2.r.rm) ?_
   by_cases hst:0<=st/\st<z
   ·rw [show tc 4 st z = "" from if_neg λh=>h.2 hst]
    obtain ⟨H3,w1,_⟩:=CY h2.r.rm h2.r.ok hs y1 hj hst.1 hst.2 cell
    exact .ok w1 λe=>by cases e
   ·rw [show tc 4 st z = "step" from if_pos ⟨by decide,hst⟩]
    exact .x .step (C6 h2.r.rm (wR h2.r.rm h2.r.ok hs y1 hj hst)) (aac _)
theorem Hk {pv:V} {b:Bool} (t:(((af "_law_place").b λv60=>mG "int" v60).b λv70=>(bi v70).b λb71=>if b71 then ((((af "_law_place").b λv62=>mG "bool" v62).b λv63=>(bi v63).b λb64=>Cm.p (V.bool (!b64))).b λv68=>(bi v68).b λb69=>if b69 then ((af "_law_place").b λv65=>(af "_law_sizes").b λv66=>(dE .In v65 v66).b λx67=>Cm.p (V.bool x67)) else Cm.p v68) else Cm.p v70) ⟨aF ["_law_sizes", "_law_out", "_law_way", "_law_place", "_law_step_here", "_law_cell"] [.ref za,.ref o,.int 5,pv,.int st,.int cell],H++[O.list [.str "size",.str ""]]⟩= .ok (.bool b) ⟨aF ["_law_sizes", "_law_out", "_law_way", "_law_place", "_law_step_here", "_law_cell"] [.ref za,.ref o,.int 5,pv,.int st,.int cell],H++[O.list [.str "size",.str ""]]⟩) :
  iH [.ref za,.ref o,.int 5,pv,.int st,.int cell] H= .ok (.str (if b then "" else "size")) (H++[O.list [.str "size",.str ""]]):=by
 haveI it:∀l,aR (.ref H.length) (.int (if b then 1 else 0)) ⟨l,H++[O.list [.str "size",.str ""]]⟩= .ok (.str (if b then "" else "size")) ⟨l,H++[O.list [.str "size",.str ""]]⟩:=λl=>by
  cases b
  ·exact dL (aY _ _) ∅ ∅ rfl
  ·exact dL (aY _ _) ∅ ∅ rfl
 exact aU (m:=kt) (q:=⟨aF ["_law_sizes", "_law_out", "_law_way", "_law_place", "_law_step_here", "_law_cell"] [.ref za,.ref o,.int 5,pv,.int st,.int cell],_⟩) rfl (ai rfl (bB (bq (a:=true) rfl (it_t rfl (bq (bq (bq rfl rfl) (bq (bq (bq t (bq rfl rfl)) rfl) (it _))) rfl)))))
theorem JD (h:OG col H p len xs ri o za r os) {pv:V} (hv:(∃k,pv= .int k)\/BV pv):DW p len xs ri o za os H 5 pv st cell:=by
 have pp:=aap H [O.list [.str "size",.str ""]]
 rcases hv with ⟨k,rfl⟩ | hv
 ·refine .mk _ _ (Hk (b:=decide (k∈xs)) ?_) pp λ{col2 H2 r2} h2 _=> ?_
  ·haveI iv:=og (q:=⟨aF ["_law_sizes", "_law_out", "_law_way", "_law_place", "_law_step_here", "_law_cell"] [.ref za,.ref o,.int 5,.int k,.int st,.int cell],H++[O.list [.str "size",.str ""]]⟩) (a:=k) (aG pp h.z)
   exact bq rfl (bq rfl (it_t rfl (bq rfl (bq rfl (it_t rfl (bq rfl (bq rfl (bq (g_cin iv) rfl))))))))
  ·refine .fwd (aac _) (Cb h2.r.rm) ?_
   by_cases hk:k∈xs
   ·rw [if_pos (decide_eq_true hk)]
    obtain ⟨n,r',H1,w1,_⟩:=AB h2.r.rm h2.r.ok (z:=k) (by rw [h2.r.rx];exact hk)
    exact .ok w1 λe=>by cases e
   ·rw [if_neg (by rw [decide_eq_false hk];exact aaW)]
    haveI hp:=HE H2 r2.pl r2.p r2.len r2.xs k h2.r.rm.isPlan (λhm=>by rw [h2.r.rx] at hm;exact absurd hm hk)
    rw [h2.r.rx,if_neg hk] at hp
    exact .x .size (zK h2.r.rm hp) (aac _)
 ·refine .mk _ _ (Hk (b:=false) ?_) pp λ{col2 H2 r2} h2 _=> ?_
  ·cases hv<;>rfl
  ·exact .fwd (aac _) (Cb h2.r.rm) (.x .size (zK h2.r.rm (GD hv)) (aac _))
end
theorem pP {x:Str} (h:PyData.strOk x=true):SeqAt.shaped (.str x)=true:=by simp [SeqAt.shaped,PyData.canLay0,PyData.depth,h]
theorem Hl (a:Int) {x:String} (h:PyData.strOk (Str.ofString x)=true) (q:S):ko (.int a) (.str x) q= .ok false q:=by
 unfold ko D4
 rw [qO,show toD q.H 8 (.str x)=some (.str (Str.ofString x)) from rfl,aaR,aaR,lM,pP h];rfl
theorem zy {x y:String} (h:PyData.strOk (Str.ofString x)=true) (h':PyData.strOk (Str.ofString y)=true) (q:S):ko (.str x) (.str y) q= .ok (Str.ofString x==Str.ofString y) q:=by
 unfold ko D4
 rw [show toD q.H 8 (.str x)=some (.str (Str.ofString x)) from rfl,show toD q.H 8 (.str y)=some (.str (Str.ofString y)) from rfl,aaR,aaR,pP h,pP h'];rfl
theorem yq:PyData.strOk (Str.ofString "")=true:=by decide +kernel
theorem Cd.ok {c d:String} (h:Cd c d):PyData.strOk (Str.ofString d)=true:=by cases h<;>decide +kernel
theorem Cd.ne {c d:String} (h:Cd c d):(Str.ofString d==Str.ofString "")=false:=by cases h<;>decide +kernel
section
variable {col:Nat->Nat} {H:Hp} {p len:Int} {xs:List Int} {ri o za:Nat} {r:Rm} {os:List (Int×Int)} {l:bw} {way pl st cell:Int}
inductive JQ (p len:Int) (za o:Nat) (c:Int) (H:Hp) (way:Int):Prop
 | int (pl:Int) (H':Hp) (e:dA [.int c,.tup [.int p,.int len,.ref za],.ref o,.int way] H= .ok (.int pl) H') (q:H<+:H'):JQ p len za o c H way
 | odd (pv:V) (H':Hp) (h:BV pv) (w:way=5) (e:dA [.int c,.tup [.int p,.int len,.ref za],.ref o,.int way] H= .ok pv H') (q:H<+:H'):JQ p len za o c H way
theorem BK (h:OG col H p len xs ri o za r os) (pm:os.Perm (b7 p len (look r.ss))) (c:Int):JQ p len za o c H way:=by
 refine oE λG kG=> ?_
 refine bz (aF ["_law_cell", "_law_drawn", "_law_out", "_law_way"] [.int c,.tup [.int p,.int len,.ref za],.ref o,.int way]) λl0 e0=> ?_
 refine bz (c.fdiv 2) λm em=> ?_
 refine bz (upd l0 "_law_more" (.int m)) λl1 e1=> ?_
 have a1:l1 "_law_cell" = some (.int c):=ah e1 ∅ (e0▸rfl)
 have a2:l1 "_law_drawn" = some (.tup [.int p,.int len,.ref za]):=ah e1 ∅ (e0▸rfl)
 have a3:l1 "_law_out" = some (.ref o):=ah e1 ∅ (e0▸rfl)
 have a4:l1 "_law_way" = some (.int way):=ah e1 ∅ (e0▸rfl)
 have a5:=aA e1
 haveI c0:l0 "_law_cell" = some (.int c):=e0▸rfl
 haveI d0:∀q,aR (.tup [.int p,.int len,.ref za]) (.int 0) q= .ok (.int p) q:=λq=>rfl
 haveI d1:∀q,aR (.tup [.int p,.int len,.ref za]) (.int 1) q= .ok (.int len) q:=λq=>rfl
 have d2:∀q,aR (.tup [.int p,.int len,.ref za]) (.int 2) q= .ok (.ref za) q:=λq=>rfl
 haveI dv:∀q,dR (.int c) (.int 2) q= .ok (.int m) q:=λq=>gk ∅ em
 haveI t1:kQ ⟨l0,H⟩= .ok .next ⟨l1,H⟩:=by exists c0,dv,e1
 have md:∀q,bD (.int c) (.int 2) q= .ok (.int (c.fmod 2)) q:=λq=>cW ∅ rfl
 have gv:∀ {v:V} {H':Hp},aw (gA) (aw (gB) (kT)) ⟨l1,H⟩= .ok (.ret v) ⟨l1,H'⟩->H<+:H'->(∃k,v= .int k)\/BV v/\way=5->G:=λ{v H'} t q hv=>by
  have e:dA [.int c,.tup [.int p,.int len,.ref za],.ref o,.int way] H= .ok v H':=aU (m:=ng) (q:=⟨l1,H'⟩) rfl (by rw [e0];exact ai t1 t)
  rcases hv with ⟨k,rfl⟩ | ⟨ho,w⟩
  ·exact kG (.int k H' e q)
  ·exact kG (.odd v H' ho w e q)
 have hL:=h.r.ok.len
 rw [h.r.rl] at hL
 have hP:=h.r.ok.p
 rw [h.r.rp] at hP
 by_cases h5:way=5
 ·have k5:decide (way=5)=true:=decide_eq_true h5
  by_cases hc:c.fmod 2=1
  ·haveI k1:decide (c.fmod 2=1)=true:=decide_eq_true hc
   have hsz:=h.sz
   have hxl:=uz (a:=0) (b:=len) hsz.rise (λx hx=>⟨hsz.low x hx,hsz.top x hx⟩) (by exact bQ 0x98019811 hL.1)
   haveI hx0:0<xs.length:=List.length_pos_iff.mpr (h.r.rx▸h.r.ok.ne)
   haveI hlv:eW [.ref za] ⟨l1,H⟩= .ok (.int xs.length) ⟨l1,H⟩:=by
    haveI:=cH (l:=l1) h.z (by rw [aai];exact id (j5 0xf4240a01090e0f8100003ca0812 hL.2 hxl))
    rw [aai] at this;exact this
   have hi:=bj m xs.length (by exact cU 0xf099009111 hx0)
   refine bz (m.fmod xs.length) λi ei=> ?_
   rw [ei] at hi
   obtain ⟨z,he⟩:∃z,xs[i.toNat]? = some z:=⟨_,aak (by exact kx 0x1101fa10f0912 hi.2 (aaq hi.1))⟩
   haveI itm:aR (.ref za) (.int i) ⟨l1,H⟩= .ok (.int z) ⟨l1,H⟩:=dL h.z hi.1 (by exact Dz 0xf4240a190f191090e0f8100003ca0813 hL.2 hxl hi.2) (by rw [List.getElem?_map,he];rfl)
   refine gv (v:= .int z) (H':=H) (bB ?_) (aac _) (.inl ⟨z,rfl⟩)
   refine bq (a:=true) (q':=⟨l1,H⟩) (by exists a4,k5) (it_t rfl (bB ?_))
   exists a1,md,k1,a2,d2,a5,hlv,cW (JK he) ei,itm
  ·have k1:decide (c.fmod 2=1)=false:=decide_eq_false hc
   have m9:∀q,bD (.int m) (.int 9) q= .ok (.int (m.fmod 9)) q:=λq=>cW ∅ rfl
   have r9:=bj m 9 ∅
   by_cases h9:m.fmod 9>5
   ·haveI k9:decide (m.fmod 9>5)=true:=decide_eq_true h9
    refine bz (H++[O.list [.bool true,.str "1",.none]]) λH1 eH1=> ?_
    haveI nl:dr [.bool true,.str "1",.none] ⟨l1,H⟩= .ok (.ref H.length) ⟨l1,H1⟩:=by rw [<- eH1];rfl
    haveI x1:H1[H.length]? = some (.list [.bool true,.str "1",.none]):=by rw [<- eH1];exact aY _ _
    obtain ⟨v,hv,ho⟩:∃v,([.bool true,.str "1",.none]:List V)[(m.fmod 9-6).toNat]? = some v/\BV v:=by
     refine bz ((m.fmod 9-6).toNat) λn en=> ?_
     haveI hn:n<3:=by exact kx 0x3911690e0fa11031990913 r9.2 en (aaq (bQ 0x690e098059911 h9))
     rw [en]
     match n,hn with
     | 0,_=>exact ⟨_,rfl,.b⟩
     | 1,_=>exact ⟨_,rfl,.s1⟩
     | 2,_=>exact ⟨_,rfl,.n⟩
    haveI itm:aR (.ref H.length) (.int (m.fmod 9-6)) ⟨l1,H1⟩= .ok v ⟨l1,H1⟩:=dL x1 (by exact bQ 0x690e098059911 h9) (by exact bQ 0xf4240a690e9990911 r9.2) hv
    refine gv (v:=v) (H':=H1) (bB ?_) ⟨_,eH1⟩ (.inr ⟨ho,h5⟩)
    refine bq (a:=true) (q':=⟨l1,H⟩) (by exists a4,k5) (it_t rfl (ai (q':=⟨l1,H⟩) (by exists a1,md,k1) (bB ?_)))
    exists a5,m9,k9,nl,itm
   ·haveI k9:decide (m.fmod 9>5)=false:=decide_eq_false h9
    haveI v9:∀q,dR (.int m) (.int 9) q= .ok (.int (m.fdiv 9)) q:=λq=>gk ∅ rfl
    haveI m63:∀q,bD (.int (m.fdiv 9)) (.int 63) q= .ok (.int ((m.fdiv 9).fmod 63)) q:=λq=>cW ∅ rfl
    refine gv (v:= .int ((m.fdiv 9).fmod 63)) (H':=H) (bB ?_) (aac _) (.inl ⟨_,rfl⟩)
    refine bq (a:=true) (q':=⟨l1,H⟩) (by exists a4,k5) (it_t rfl (ai (q':=⟨l1,H⟩) (by exists a1,md,k1) (ai (q':=⟨l1,H⟩) (by exists a5,m9,k9) ?_)))
    exists a5,v9,m63
 ·haveI k5:decide (way=5)=false:=decide_eq_false h5
  have t2:gA ⟨l1,H⟩= .ok .next ⟨l1,H⟩:=by exists a4,k5
  refine bz (H++[O.list []]) λH1 eH1=> ?_
  have q0:=wU (l:=l1) h.o (uO os)
  rw [eH1] at q0
  have p1:H<+:H1:=⟨_,eH1⟩
  haveI mu:∀q,gx (.int p) (.int len) q= .ok (.int (p*len)) q:=λq=>uQ _ _ _ (IB (by exact bQ 0x98019811 hP.1) (by exact bQ 0xf4240a09000028a0811 hP.2))
  haveI h0:0<=p*len:=Int.mul_nonneg (by exact bQ 0x98019811 hP.1) (by exact bQ 0x98019811 hL.1)
  haveI m7:∀q,bD (.int m) (.int (p*len+7)) q= .ok (.int (m.fmod (p*len+7))) q:=λq=>cW (by exact λx9=>bQ 0x909609790ca1009812 h0 x9) rfl
  have last:∀ {H2:Hp},gB ⟨l1,H⟩= .ok .next ⟨l1,H2⟩->H<+:H2->G:=λ{H2} t3 pp=>by
   refine gv (v:= .int (m.fmod (p*len+7)-3)) (H':=H2) (ai t2 (ai t3 ?_)) pp (.inl ⟨_,rfl⟩)
   exists a5,a2,d0,d1,mu,m7
  by_cases hc:c.fmod 2=1
  ·have k1:decide (c.fmod 2=1)=true:=decide_eq_true hc
   cases hb:(os.map aD).isEmpty with
   | true =>
    rw [hb] at q0
    refine last (H2:=H1) ?_ p1
    exists a1,md,k1,a3,eH1,q0
   | false =>
    rw [hb] at q0
    have hfw:=h.few pm
    haveI hp:0<os.length:=by
     cases os with
     | nil=>cases hb
     | cons=>exact Nat.zero_lt_succ _
    have ho1:=aG p1 h.o
    haveI hlv:eW [.ref o] ⟨l1,H1⟩= .ok (.int os.length) ⟨l1,H1⟩:=by
     haveI:=cH (l:=l1) ho1 (by rw [aai];exact id (cU 0xf4240a01009c40a0011 hfw))
     rw [aai] at this;exact this
    have hi:=bj m os.length (by exact cU 0xf099009111 hp)
    refine bz (m.fmod os.length) λi ei=> ?_
    rw [ei] at hi
    obtain ⟨e,he⟩:∃e,os[i.toNat]? = some e:=⟨_,aak (by exact kx 0x1101fa10f0912 hi.2 (aaq hi.1))⟩
    haveI itm:aR (.ref o) (.int i) ⟨l1,H1⟩= .ok (.tup [.int e.1,.int e.2]) ⟨l1,H1⟩:=dL ho1 hi.1 (by exact j5 0xf4240a090f091009c40a0012 hfw hi.2) (by rw [List.getElem?_map,he];rfl)
    haveI de:∀q,aR (.tup [.int e.1,.int e.2]) (.int 0) q= .ok (.int e.1) q:=λq=>rfl
    refine gv (v:= .int e.1) (H':=H1) (ai t2 (bB (bq (a:=true) (q':=⟨l1,H1⟩) ?_ (it_t rfl ?_)))) p1 (.inl ⟨_,rfl⟩)
    ·exists a1,md,k1,a3,eH1,q0
    ·exists a3,a5,hlv,cW (JK he) ei,itm,de
  ·haveI k1:decide (c.fmod 2=1)=false:=decide_eq_false hc
   refine last (H2:=H) ?_ (aac _)
   exists a1,md,k1
def Pv (v:V):Prop:=(∃k,v= .int k)\/BV v
theorem Pv.eq {v:V} (h:Pv v) (a:Int) (q:S):∃b,ko (.int a) v q= .ok b q:=by
 rcases h with ⟨k,rfl⟩ | h
 ·exact ⟨_,nq _ _ _⟩
 ·cases h with
  | b=>exact ⟨_,rfl⟩
  | n=>exact ⟨_,rfl⟩
  | s1=>exact ⟨_,Hl a ∅ q⟩
  | s2=>exact ⟨_,Hl a ∅ q⟩
theorem lO {cs:List V} {pv:V} (hv:Pv pv) (ho:H[o]? = some (.list cs)):∀(es:List (Int×Int)) {l:bw} {z:Int},l "_law_size" = some (.int z)->l "_law_place" = some pv->l "_law_cell" = some (.int cell) ->
  ∃l' z',A3 (dS (λH=>ay (.ref o) H=some cs) (a9 "_law_pair") (fo) (es.map aD) ⟨l,H⟩= .ok .next ⟨l',H⟩) (l' "_law_size" = some (.int z')) (l' "_law_cell" = some (.int cell))
 | [],l,z,a,_,c=>⟨l,z,rfl,a,c⟩
 | e::es,l,z,a,b,c=>by
  refine oE λG kG=> ?_
  refine bz (upd l "_law_pair" (.tup [.int e.1,.int e.2])) λl1 e1=> ?_
  haveI a1:=ah e1 ∅ a
  have b1:=ah e1 ∅ b
  have c1:=ah e1 ∅ c
  have p1:=aA e1
  have d0:∀q,aR (.tup [.int e.1,.int e.2]) (.int 0) q= .ok (.int e.1) q:=λq=>rfl
  haveI d1:∀q,aR (.tup [.int e.1,.int e.2]) (.int 1) q= .ok (.int e.2) q:=λq=>rfl
  obtain ⟨k,hk⟩:=hv.eq e.1 ⟨l1,H⟩
  cases k with
  | true =>
   refine bz (upd l1 "_law_size" (.int e.2)) λl2 e2=> ?_
   haveI tb:fo ⟨l1,H⟩= .ok .next ⟨l2,H⟩:=by exists p1,d0,b1,hk,d1,e2
   obtain ⟨l3,z3,t3,s3,k3⟩:=lO hv ho es (aA e2) (ah e2 ∅ b1) (ah e2 ∅ c1)
   exact kG ⟨l3,z3,(cg (bq (g_set e1) tb) (fW ho)).trans t3,s3,k3⟩
  | false =>
   haveI tb:fo ⟨l1,H⟩= .ok .next ⟨l1,H⟩:=by exists p1,d0,b1,hk
   obtain ⟨l3,z3,t3,s3,k3⟩:=lO hv ho es a1 b1 c1
   exact kG ⟨l3,z3,(cg (bq (g_set e1) tb) (fW ho)).trans t3,s3,k3⟩
theorem DP {pv:V} (hv:Pv pv) (ho:H[o]? = some (.list (os.map aD))):∃s H',jX [.ref o,pv,.int cell] H= .ok (.int s) H'/\H<+:H':=by
 refine bz (aF ["_law_out", "_law_place", "_law_cell"] [.ref o,pv,.int cell]) λl0 e0=> ?_
 refine bz (upd l0 "_law_size" (.int 4)) λl1 e1=> ?_
 obtain ⟨l2,z,t2,a1,a2⟩:=lO (cell:=cell) hv ho os (aA e1) (ah e1 ∅ (e0▸rfl)) (ah e1 ∅ (e0▸rfl))
 have k:=bj cell 6 ∅
 obtain ⟨L,eL⟩:∃L:List V,[.int z,.int (z-1),.int (-1),.int 0,.int (z+1),.int ((cell.fdiv 6).fmod 64-2)]=L:=⟨_,rfl⟩
 obtain ⟨s,hs⟩:∃s,L[(cell.fmod 6).toNat]? = some (.int s):=by
  refine bz ((cell.fmod 6).toNat) λn en=> ?_
  haveI hn:n<6:=by exact kx 0x691100fa11031690913 k.2 en (aaq k.1)
  rw [en,<- eL]
  match n,hn with
  | 0,_=>exact ⟨_,rfl⟩
  | 1,_=>exact ⟨_,rfl⟩
  | 2,_=>exact ⟨_,rfl⟩
  | 3,_=>exact ⟨_,rfl⟩
  | 4,_=>exact ⟨_,rfl⟩
  | 5,_=>exact ⟨_,rfl⟩
 haveI nl:dr L ⟨l2,H⟩= .ok (.ref H.length) ⟨l2,H++[.list L]⟩:=by rw [<- eL];rfl
 haveI itm:aR (.ref H.length) (.int (cell.fmod 6)) ⟨l2,H++[.list L]⟩= .ok (.int s) ⟨l2,H++[.list L]⟩:=dL (aY _ _) k.1 (by exact bQ 0xf4240a09690911 k.2) hs
 haveI m6:∀q,bD (.int cell) (.int 6) q= .ok (.int (cell.fmod 6)) q:=λq=>cW ∅ rfl
 haveI v6:∀q,dR (.int cell) (.int 6) q= .ok (.int (cell.fdiv 6)) q:=λq=>gk ∅ rfl
 haveI m64:∀q,bD (.int (cell.fdiv 6)) (.int 64) q= .ok (.int ((cell.fdiv 6).fmod 64)) q:=λq=>cW ∅ rfl
 refine ⟨s,_,aU (m:=oX) (q:=⟨l2,H++[.list L]⟩) rfl ?_,aap _ _⟩
 rw [e0]
 refine ai (q':=⟨l1,H⟩) (bq rfl (bq (g_set e1) rfl)) (ai (q':=⟨l2,H⟩) (bq (bq (g_get (ah e1 ∅ (e0▸rfl))) (pJ ho)) t2) ?_)
 refine bq (bq (bq (a:=L) (q':=⟨l2,H⟩) ?_ nl) (bq (bq (g_get a2) (bq rfl (m6 _))) itm)) rfl
 rw [<- eL]
 exists a1,a2,v6,m64
end
structure Ck (r:Rm) (e:Int×Int) (t:Int):Prop where
 c:r.cs[(e.1+t).toNat]? = some (e.1*61+t+1)
section
variable {col:Nat->Nat} {H:Hp} {p len:Int} {xs:List Int} {ri o za:Nat} {r:Rm} {os:List (Int×Int)} {l:bw} {way pl st cell:Int}
theorem OG.b (h:OG col H p len xs ri o za r os) {e:Int×Int} (he:e∈b7 p len (look r.ss)):0<=e.1/\e.1<1000000/\1<=e.2:=by
 have hL:=h.r.ok.len
 rw [h.r.rl] at hL
 haveI hP:=h.r.ok.p
 rw [h.r.rp] at hP
 obtain ⟨g,z,bs,j,hF,hj,rfl⟩:=lS he
 have lj:=(aab.mp hj).1
 have hz:=(h.page hF lj).2.2
 obtain ⟨u1,u2⟩:=slot hL.1 hz (h.szok z g _ hF rfl) lj
 have hg:=h.inr g _ hF
 haveI h1:=uN hg.2 hL.1
 haveI h2:0<=g*len:=Int.mul_nonneg hg.1 (by exact bQ 0x98019811 hL.1)
 haveI h3:p*len<=40*60:=Int.mul_le_mul hP.2 hL.2 (by exact bQ 0x98019811 hL.1) ∅
 dsimp only
 exact id (⟨td 0x1c09810981009812 u1 h2,hH [] [_,_,_,_,_] 0xf4240a13c900003ca28d481423c81201c81019814 hz u2 h1 h3,hz⟩)
inductive JR (p len:Int) (xs:List Int) (ri o za:Nat) (os:List (Int×Int)) (r:Rm) (e:Int×Int) (t:Int) (fx:qT Hp V):Prop
 | mk (H':Hp) (col':Nat->Nat) (r':Rm) (w:fx= .ok .none H') (g:OG col' H' p len xs ri o za r' os) (lk:look r'.ss=look r.ss) (c:Ck r' e t) (k:∀e'∈os,∀t',0<=t'/\t'<e'.2->Ck r e' t'->Ck r' e' t')
theorem OG.put (h:OG col H p len xs ri o za r os) (pm:os.Perm (b7 p len (look r.ss))) {e:Int×Int} (he:e∈os) {t x:Int} (ht:0<=t/\t<e.2) (hx:e.1*61+t+1=x):JR p len xs ri o za os r e t (dj [.inst "Room" ri,.int e.1,.int t,.int x] H):=by
 have hm:=pm.mem_iff.mp he
 haveI b:=h.b hm
 obtain ⟨g,z,bs,j,hF,hj,rfl⟩:=lS hm
 obtain ⟨s,hs,y1,y2⟩:=ug hF
 rw [<- y2] at hj
 obtain ⟨H1,w1,w2,w3,w4,w5⟩:=CY h.r.rm h.r.ok hs y1 hj ht.1 ht.2 x
 obtain ⟨g1,_⟩:=h.room w2 w3 (Rm.Sm.cs r _) w4 λi hi=> .inl hi
 rw [h.r.rl] at w1 w5 g1
 refine .mk H1 _ _ w1 g1 rfl ⟨by rw [hx];exact w5⟩ λe' he' t' ht' hc=>⟨?_⟩
 have b':=h.b (pm.mem_iff.mp he')
 by_cases hq:g*len+j*z+t=e'.1+t'
 ·haveI:=h.inj hm (pm.mem_iff.mp he') ht ht' hq
  subst this
  haveI ht2:t=t':=by dsimp only at hq;exact id (aa0 (Gl 0x328310cc210cca11 hq) (Gl 0x238310cc210ccb11 hq))
  subst ht2
  rw [hx];exact w5
 ·show (r.cs.set _ x)[_]? = _
  rw [aaS (λe=>hq (by dsimp only at b ht;exact id (aa0 (hH [_,_] [_,_,_,_,_] 0x43c210cc843c1fa10f210cc8110213 e (Int.self_le_toNat _) (aaq (td 0x1c09810981009812 ht'.1 b'.1))) (hH [_,_] [_,_,_,_,_] 0x210cc43c81f43c81210cc0fa110313 e (aaq (Hr 0x21cc09821c0981009812 ht.1 b.1)) (Int.self_le_toNat _)))))];exact hc.c
theorem C5:∀(es:List (Int×Int)) {col:Nat->Nat} {H:Hp} {r:Rm} {l:bw},OG col H p len xs ri o za r os->os.Perm (b7 p len (look r.ss))->(∀e∈es,e∈os)->l "_law_room" = some (.inst "Room" ri) ->
  ∃(l':bw) (H':Hp) (col':Nat->Nat) (r':Rm),A6 (dS (λH=>ay (.ref o) H=some (os.map aD)) (a9 "_law_pair") (xP) (es.map aD) ⟨l,H⟩= .ok .next ⟨l',H'⟩) (OG col' H' p len xs ri o za r' os) (look r'.ss=look r.ss) (∀e∈es,Ck r' e 0/\Ck r' e (e.2-1)) (∀e'∈os,∀t',0<=t'/\t'<e'.2->Ck r e' t'->Ck r' e' t') (∀y,y ≠ "_law_pair" -> l' y=l y)
 | [],col,H,r,l,h,_,_,_=>⟨l,H,col,r,rfl,h,rfl,λe he=>(nomatch he),λ_ _ _ _ h=>h,λ_ _=>rfl⟩
 | e::es,col,H,r,l,h,pm,hs,hl=>by
  refine oE λG kG=> ?_
  refine bz (upd l "_law_pair" (.tup [.int e.1,.int e.2])) λl1 e1=> ?_
  have p1:=aA e1
  have r1:=ah e1 ∅ hl
  have he:=hs e (.head _)
  have b:=h.b (pm.mem_iff.mp he)
  have d0:∀q,aR (.tup [.int e.1,.int e.2]) (.int 0) q= .ok (.int e.1) q:=λq=>rfl
  have d1:∀q,aR (.tup [.int e.1,.int e.2]) (.int 1) q= .ok (.int e.2) q:=λq=>rfl
  have mu:∀q,gx (.int e.1) (.int 61) q= .ok (.int (e.1*61)) q:=λq=>uQ _ _ _ (IB b.1 b.2.1)
  cases h.put pm he (t:=0) (x:=e.1*61+1) (z0 b.2.2) (by exact aa0 (bQ 0x190c19090cc80) (bQ 0x19090cc190c80)) with
  | mk H1 col1 rr1 w1 g1 lk1 c1 k1 =>
  have pm1:os.Perm (b7 p len (look rr1.ss)):=by rw [lk1];exact pm
  cases g1.put pm1 he (t:=e.2-1) (x:=e.1*61+e.2) (by exact ⟨bQ 0x190e098019811 b.2.2,bQ 0x190e90⟩) (by exact aa0 (td 0x10c19191e0cc80) (td 0x19191e0cc10c80)) with
  | mk H2 col2 rr2 w2 g2 lk2 c2 k2 =>
  haveI pm2:os.Perm (b7 p len (look rr2.ss)):=by rw [lk2];exact pm1
  obtain ⟨l3,H3,col3,r3,t3,g3,lk3,c3,k3,n3⟩:=C5 es g2 pm2 (λx hx=>hs x (.tail _ hx)) r1
  haveI tb:xP ⟨l1,H⟩= .ok .next ⟨l1,H2⟩:=by
   refine ai (q':=⟨l1,H1⟩) ?_ ?_
   ·exists r1,aH h.r.rm (f := "write") ∅,p1,d0,mu,w1
   ·exists r1,aH g1.r.rm (f := "write") ∅,p1,d0,d1,mu,w2
  refine kG ⟨l3,H3,col3,r3,(cg (bq (g_set e1) tb) (fW g2.o)).trans t3,g3,(lk3.trans lk2).trans lk1,λx hx=> ?_,λe' he' t' ht' hc=>k3 e' he' t' ht' (k2 e' he' t' ht' (k1 e' he' t' ht' hc)),λy hy=>by rw [n3 y hy,<- e1,ig _ _ hy]⟩
  rcases aal.mp hx with rfl | hx
  ·exact ⟨k3 _ he _ (z0 b.2.2) (k2 _ he _ (z0 b.2.2) c1),k3 _ he _ (by exact ⟨bQ 0x190e098019811 b.2.2,bQ 0x190e90⟩) c2⟩
  ·exact c3 x hx
theorem OG.get (h:OG col H p len xs ri o za r os) (pm:os.Perm (b7 p len (look r.ss))) {e:Int×Int} (he:e∈os) {t:Int} (ht:0<=t/\t<e.2) (hc:Ck r e t):dH [.inst "Room" ri,.int e.1,.int t] H= .ok (.int (e.1*61+t+1)) H:=by
 obtain ⟨g,z,bs,j,hF,hj,rfl⟩:=lS (pm.mem_iff.mp he)
 obtain ⟨s,hs,y1,y2⟩:=ug hF
 rw [<- y2] at hj
 obtain ⟨v,w1,w2⟩:=FP h.r.rm h.r.ok hs y1 hj ht.1 ht.2
 rw [h.r.rl] at w1 w2
 have:=hc.c
 rw [w2] at this
 cases this
 exact w1
theorem CM (h:OG col H p len xs ri o za r os) (pm:os.Perm (b7 p len (look r.ss))):∀(es:List (Int×Int)) {l:bw},(∀e∈es,e∈os/\Ck r e 0/\Ck r e (e.2-1))->l "_law_room" = some (.inst "Room" ri) ->
  ∃l',dS (λH=>ay (.ref o) H=some (os.map aD)) (a9 "_law_pair") (jS) (es.map aD) ⟨l,H⟩= .ok .next ⟨l',H⟩
 | [],l,_,_=>⟨l,rfl⟩
 | e::es,l,hs,hl=>by
  refine oE λG kG=> ?_
  refine bz (upd l "_law_pair" (.tup [.int e.1,.int e.2])) λl1 e1=> ?_
  have p1:=aA e1
  have r1:=ah e1 ∅ hl
  obtain ⟨he,c1,c2⟩:=hs e (.head _)
  have b:=h.b (pm.mem_iff.mp he)
  have d0:∀q,aR (.tup [.int e.1,.int e.2]) (.int 0) q= .ok (.int e.1) q:=λq=>rfl
  have d1:∀q,aR (.tup [.int e.1,.int e.2]) (.int 1) q= .ok (.int e.2) q:=λq=>rfl
  have mu:∀q,gx (.int e.1) (.int 61) q= .ok (.int (e.1*61)) q:=λq=>uQ _ _ _ (IB b.1 b.2.1)
  haveI w1:=h.get pm he (z0 b.2.2) c1
  haveI w2:=h.get pm he (by exact ⟨bQ 0x190e098019811 b.2.2,bQ 0x190e90⟩) c2
  haveI q1:∀q,ko (.int (e.1*61+0+1)) (.int (e.1*61+1)) q= .ok true q:=λq=>oQ (decide_eq_true (by exact aa0 (bQ 0x190c19090cc80) (bQ 0x19090cc190c80)))
  haveI q2:∀q,ko (.int (e.1*61+(e.2-1)+1)) (.int (e.1*61+e.2)) q= .ok true q:=λq=>oQ (decide_eq_true (by exact aa0 (td 0x10c19191e0cc80) (td 0x19191e0cc10c80)))
  have rm:=λl=>aH h.r.rm (f := "read") ∅ l
  haveI tb:jS ⟨l1,H⟩= .ok .next ⟨l1,H⟩:=by exists r1,rm,p1,d0,w1,mu,q1,d1,w2,q2
  obtain ⟨l2,t2⟩:=CM h pm es (λx hx=>hs x (.tail _ hx)) r1
  exact kG ⟨l2,(cg (bq (g_set e1) tb) (fW h.o)).trans t2⟩
theorem GX (h:OG col H p len xs ri o za r os) (pm:os.Perm (b7 p len (look r.ss))) (hc:∀e∈os,Ck r e 0/\Ck r e (e.2-1)):mV [.inst "Room" ri,.ref o] H= .ok (.bool true) H:=by
 refine bz (aF ["_law_room", "_law_out"] [.inst "Room" ri,.ref o]) λl0 e0=> ?_
 obtain ⟨l1,t1⟩:=CM h pm os (l:=l0) (λe he=>⟨he,hc e he⟩) (e0▸rfl)
 refine aU (m:=sF) (q:=⟨l1,H⟩) rfl ?_
 rw [e0]
 exact ai (q':=⟨l1,H⟩) (bq (bq (g_get (e0▸rfl)) (pJ h.o)) t1) rfl
end
structure L4 (ri o:Nat) (way:Int) (pv:V) (st cell:Int) (d:String) (l:bw):Prop where
 s:l "_law_script" = some .scr
 r:l "_law_room" = some (.inst "Room" ri)
 o:l "_law_out" = some (.ref o)
 w:l "_law_way" = some (.int way)
 p:l "_law_place" = some pv
 t:l "_law_step_here" = some (.int st)
 c:l "_law_cell" = some (.int cell)
 d:l "_law_due_here" = some (.str d)
theorem L4.to {ri o:Nat} {way:Int} {pv:V} {st cell:Int} {d:String} {l l':bw} (h:L4 ri o way pv st cell d l) (e:∀y∈["_law_script", "_law_room", "_law_out", "_law_way", "_law_place", "_law_step_here", "_law_cell", "_law_due_here"],l' y=l y):L4 ri o way pv st cell d l' :=
 ⟨(e _ ∅).trans h.s,(e _ ∅).trans h.r,(e _ ∅).trans h.o,(e _ ∅).trans h.w,(e _ ∅).trans h.p,(e _ ∅).trans h.t,(e _ ∅).trans h.c,(e _ ∅).trans h.d⟩
theorem L4.upd {ri o:Nat} {way:Int} {pv:V} {st cell:Int} {d:String} {l l':bw} (h:L4 ri o way pv st cell d l) {x:String} {v:V} (e:Mine.Lake.upd l x v=l') (hx:x∈["_law_before", "_law_found_here", "_law_things", "_law_pair"]):L4 ri o way pv st cell d l' :=
 h.to λy hy=>by rw [<- e];exact ig _ _ (λq=>(by decide:∀y∈["_law_script", "_law_room", "_law_out", "_law_way", "_law_place", "_law_step_here", "_law_cell", "_law_due_here"],y∉["_law_before", "_law_found_here", "_law_things", "_law_pair"]) y hy (q.symm▸hx))
section
variable {col:Nat->Nat} {H:Hp} {p len:Int} {xs:List Int} {ri o za:Nat} {r:Rm} {os:List (Int×Int)} {l:bw} {way st cell:Int} {pv:V} {d:String}
theorem w6:∀n:Nat,n<6->(n:Int)=5\/((n:Int)=0\/(n:Int)=1)\/((n:Int)=2\/(n:Int)=3\/(n:Int)=4):=by decide
theorem GZ (h:OG col H p len xs ri o za r os) (hv:Pv pv) (hi:way≠5-> ∃k,pv= .int k) (hw:0<=way/\way<6):DW p len xs ri o za os H way pv st cell:=by
 obtain ⟨n,rfl⟩:=Int.eq_ofNat_of_zero_le hw.1
 rcases w6 n (Int.ofNat_lt.mp hw.2) with e | e | e
 ·rw [e];exact JD h hv
 ·obtain ⟨k,rfl⟩:=hi (by rcases e with e | e<;>rw [e]<;>decide)
  exact I2 h e
 ·obtain ⟨k,rfl⟩:=hi (by rcases e with e | e | e<;>rw [e]<;>decide)
  exact GY h e
theorem Dv (h:OG col H p len xs ri o za r os) (pm:os.Perm (b7 p len (look r.ss))) (hc:∀e∈os,Ck r e 0/\Ck r e (e.2-1)) (hl:L4 ri o way pv st cell d l) {n1 n2:Nat} (hb:l "_law_before" = some (.tup [.ref n1,.ref n2]))
  (x1:H[n1]? = some (.list ((cX p (look r.ss)).filterMap (rH (look r.ss))))) (x2:H[n2]? = some (.list ((pZ p (look r.ss)).map V.int))) :
  ∃q',aw (qJ) (aw (qK) (qL)) ⟨l,H⟩= .ok (.ret (.bool true)) q':=by
 refine oE λG kG=> ?_
 haveI hfw:=h.few pm
 haveI hst:=h.srt pm
 haveI v1:=FQ h.r.rm h.r.ok
 rw [h.r.rp,h.r.rl] at v1
 obtain ⟨n3,H1,f1,p1,_,y1⟩:=v1
 refine bz (upd l "_law_things" (.ref n3)) λl1 e1=> ?_
 have L1:=hl.upd e1 ∅
 have b1:=aA e1
 haveI ho1:=aG p1 h.o
 haveI so:=nu (l:=l1) ho1 (by exact cU 0xf4240a01009c40a0011 hfw)
 rw [hst] at so
 refine bz (H1++[O.list ((b7 p len (look r.ss)).map aD)]) λH2 e2=> ?_
 rw [e2] at so
 have p2:H1<+:H2:=⟨_,e2⟩
 haveI q2:=Jn (l:=l1) ⟨aG p2 y1,by rw [<- e2];exact aY _ _,uO _⟩
 have R2:=h.r.rm.pre (p1.trans p2)
 haveI v5:=xD R2 h.r.ok
 rw [h.r.rp] at v5
 obtain ⟨n5,H6,f5,p6,_,y5⟩:=v5
 have R6:=R2.pre p6
 haveI v6:=yY R6 h.r.ok
 rw [h.r.rp,tS] at v6
 obtain ⟨H7,f6,e7⟩:=v6
 have p7:H6<+:H7:=⟨_,e7.symm⟩
 haveI y6:H7[H6.length]? = some (.list ((pZ p (look r.ss)).map V.int)):=by rw [e7];exact aY _ _
 have P7:=p1.trans (p2.trans (p6.trans p7))
 haveI q7:=Ia (l:=l1) (H:=H7) ⟨aG p7 y5,aG P7 x1,IE _ _⟩ ⟨y6,aG P7 x2,GG _⟩
 obtain ⟨g7,_⟩:=h.pre P7
 haveI sv:=GX g7 pm hc
 refine kG ⟨⟨l1,H7⟩,ai (q':=⟨l1,H1⟩) ?_ (ai (q':=⟨l1,H7⟩) ?_ ?_)⟩
 ·exists hl.r,aH h.r.rm (f := "things") ∅,f1,e1
 ·exists b1,CW y1,L1.o,so,q2,L1.r,aH R2 (f := "shelves") ∅,f5,aH R6 (f := "pile") ∅,f6,ah e1 ∅ hb,q7
 ·exists L1.r,L1.o,sv
theorem Dt (h:OG col H p len xs ri o za r os) (pm:os.Perm (b7 p len (look r.ss))) (hc:∀e∈os,Ck r e 0/\Ck r e (e.2-1)) (hl:L4 ri o way pv st cell d l) {n1 n2:Nat} (hb:l "_law_before" = some (.tup [.ref n1,.ref n2]))
  (x1:H[n1]? = some (.list ((cX p (look r.ss)).filterMap (rH (look r.ss))))) (x2:H[n2]? = some (.list ((pZ p (look r.ss)).map V.int)))
  (hd:DO (bT [.inst "Room" ri,.int way,pv,.int st,.int cell] H) H way d) :
  ∃q',aw (nO) (aw (qI) (aw (qJ) (aw (qK) (qL)))) ⟨l,H⟩= .ok (.ret (.bool true)) q':=by
 refine oE λG kG=> ?_
 have z0:∀q,ko (.str "") (.str "") q= .ok true q:=λq=>by rw [zy yq yq,beq_self_eq_true]
 have go:∀ {l2:bw} {H2:Hp},nO ⟨l,H⟩= .ok .next ⟨l2,H2⟩->L4 ri o way pv st cell d l2->l2 "_law_before" = some (.tup [.ref n1,.ref n2])->qI ⟨l2,H2⟩= .ok .next ⟨l2,H2⟩->H<+:H2->G:=λ{l2 H2} t12 L2 b2 t13 pp=>by
  obtain ⟨g2,_⟩:=h.pre pp
  obtain ⟨q',t⟩:=Dv g2 pm hc L2 b2 (aG pp x1) (aG pp x2)
  exact kG ⟨q',ai t12 (ai t13 t)⟩
 cases hd with
 | x hc' e pp =>
  rename_i c H1
  have z1:∀q,ko (.str d) (.str d) q= .ok true q:=λq=>by rw [zy hc'.ok hc'.ok,beq_self_eq_true]
  have z2:∀q,ko (.str d) (.str "") q= .ok false q:=λq=>by rw [zy hc'.ok yq,hc'.ne]
  obtain ⟨c4,h4⟩:=nQ H 4 ∅ ∅
  have v6:∀q,dR (.int c4) (.int 6) q= .ok (.int (c4.fdiv 6)) q:=λq=>gk ∅ rfl
  have m2:∀q,bD (.int (c4.fdiv 6)) (.int 2) q= .ok (.int ((c4.fdiv 6).fmod 2)) q:=λq=>cW ∅ rfl
  by_cases hk:(c4.fdiv 6).fmod 2=1
  ·haveI k1:decide ((c4.fdiv 6).fmod 2=1)=true:=decide_eq_true hk
   obtain ⟨H2,w,p2⟩:=JU hc' e
   refine go (l2:=l) (H2:=H2) (bq (a:=true) (q':=⟨l,H⟩) ?_ (it_t rfl ?_)) hl hb ?_ (pp.trans p2)
   ·exists hl.d,z2,hl.s,h4,v6,m2,k1
   ·exists hl.r,hl.w,hl.p,hl.t,hl.c,w,hl.d,z1
   ·exists hl.d,z2
  ·haveI k1:decide ((c4.fdiv 6).fmod 2=1)=false:=decide_eq_false hk
   haveI w:=Ci (.cd hc') e
   refine bz (upd l "_law_found_here" (.str d)) λl2 e2=> ?_
   have L2:=hl.upd e2 ∅
   refine go (l2:=l2) (H2:=H1) (bq (a:=false) (q':=⟨l,H⟩) ?_ (it_f rfl (ai (q':=⟨l2,H1⟩) ?_ ?_))) L2 (ah e2 ∅ hb) ?_ pp
   ·exists hl.d,z2,hl.s,h4,v6,m2,k1
   ·exists hl.r,hl.w,hl.p,hl.t,hl.c,w,e2
   ·exists aA e2,L2.d,z1
   ·exists L2.d,z2
 | ok e pp =>
  rename_i v H1
  haveI w:=EB e
  refine bz (upd l "_law_found_here" (.str "")) λl2 e2=> ?_
  have L2:=hl.upd e2 ∅
  have t12:nO ⟨l,H⟩= .ok .next ⟨l2,H1⟩:=by
   refine bq (a:=false) (q':=⟨l,H⟩) ?_ (it_f rfl (ai (q':=⟨l2,H1⟩) ?_ ?_))
   ·exists hl.d,z0
   ·exists hl.r,hl.w,hl.p,hl.t,hl.c,w,e2
   ·exists aA e2,L2.d,z0
  by_cases h1:way=1
  ·haveI k1:∀q,ko (.int way) (.int 1) q= .ok true q:=λq=>oQ (decide_eq_true h1)
   refine go t12 L2 (ah e2 ∅ hb) ?_ (pp h1)
   exists L2.d,z0,L2.w,k1
  ·haveI k1:∀q,ko (.int way) (.int 1) q= .ok false q:=λq=>oQ (decide_eq_false h1)
   refine kG ⟨⟨l2,H1⟩,ai t12 (bB ?_)⟩
   exists L2.d,z0,L2.w,k1
 | room e hw =>
  rename_i H1
  subst hw
  haveI w:=Ci .room e
  refine bz (upd l "_law_found_here" (.str "room")) λl2 e2=> ?_
  have L2:=hl.upd e2 ∅
  have okr:PyData.strOk (Str.ofString "room")=true:=by decide +kernel
  haveI z1:∀q,ko (.str "room") (.str "") q= .ok false q:=λq=>by rw [zy okr yq,show (Str.ofString "room" == Str.ofString "")=false by decide +kernel]
  haveI z2:∀q,ko (.str "room") (.str "room") q= .ok true q:=λq=>by rw [zy okr okr,beq_self_eq_true]
  haveI k1:∀q,ko (.int 0) (.int 1) q= .ok false q:=λq=>oQ rfl
  haveI k0:∀q,ko (.int 0) (.int 0) q= .ok true q:=λq=>oQ rfl
  refine kG ⟨⟨l2,H1⟩,ai (q':=⟨l2,H1⟩) (bq (a:=false) (q':=⟨l,H⟩) ?_ (it_f rfl (ai (q':=⟨l2,H1⟩) ?_ ?_))) (bB ?_)⟩
  ·exists hl.d,z0
  ·exists hl.r,hl.w,hl.p,hl.t,hl.c,w,e2
  ·exists aA e2,L2.d,z1,z2,L2.w,k0,z0
  ·exists L2.d,z0,L2.w,k1
theorem Du (h:OG col H p len xs ri o za r os) (pm:os.Perm (b7 p len (look r.ss))) (ls:l "_law_script" = some .scr) (lr:l "_law_room" = some (.inst "Room" ri)) (ld:l "_law_drawn" = some (.tup [.int p,.int len,.ref za])) (lo:l "_law_out" = some (.ref o)) :
  ∃q',aw (yI) (aw (yJ) (aw (yK) (aw (yL) (aw (yM) (aw (vD) (aw (vE) (aw (nO) (aw (qI) (aw (qJ) (aw (qK) (qL))))))))))) ⟨l,H⟩= .ok (.ret (.bool true)) q':=by
 refine oE λG kG=> ?_
 obtain ⟨c4,h4⟩:=nQ H 4 ∅ ∅
 obtain ⟨c5,h5⟩:=nQ H 5 ∅ ∅
 obtain ⟨c6,h6⟩:=nQ H 6 ∅ ∅
 have hw:=bj c4 6 ∅
 refine bz (c4.fmod 6) λway ew=> ?_
 rw [ew] at hw
 haveI m6:∀q,bD (.int c4) (.int 6) q= .ok (.int way) q:=λq=>cW ∅ ew
 refine bz (upd l "_law_way" (.int way)) λl5 e5=> ?_
 haveI t5:yI ⟨l,H⟩= .ok .next ⟨l5,H⟩:=by exists ls,h4,m6,e5
 have s5:=ah e5 ∅ ls
 refine bz (upd l5 "_law_cell" (.int c5)) λl6 e6=> ?_
 haveI t6:yJ ⟨l5,H⟩= .ok .next ⟨l6,H⟩:=by exists s5,h5,e6
 have s6:=ah e6 ∅ s5
 haveI r6:=ah e6 ∅ (ah e5 ∅ lr)
 have d6:=ah e6 ∅ (ah e5 ∅ ld)
 have o6:=ah e6 ∅ (ah e5 ∅ lo)
 have w6:=ah e6 ∅ (aA e5)
 haveI c6':=aA e6
 have main:∀ {pv:V} {H7:Hp},dA [.int c6,.tup [.int p,.int len,.ref za],.ref o,.int way] H= .ok pv H7->H<+:H7->Pv pv->(way≠5-> ∃k,pv= .int k)->G:=λ{pv H7} e7 p7 hv hi=>by
  refine bz (upd l6 "_law_place" pv) λl7 el7=> ?_
  haveI t7:yK ⟨l6,H⟩= .ok .next ⟨l7,H7⟩:=by exists s6,h6,d6,o6,w6,e7,el7
  obtain ⟨g7,_⟩:=h.pre p7
  obtain ⟨st,H8,e8,p8⟩:=DP (cell:=c5) hv g7.o
  refine bz (upd l7 "_law_step_here" (.int st)) λl8 el8=> ?_
  have o7:=ah el7 ∅ o6
  have c7:=ah el7 ∅ c6'
  haveI t8:yL ⟨l7,H7⟩= .ok .next ⟨l8,H8⟩:=by exists o7,aA el7,c7,e8,el8
  obtain ⟨g8,_⟩:=g7.pre p8
  haveI d2:∀q,aR (.tup [.int p,.int len,.ref za]) (.int 2) q= .ok (.ref za) q:=λq=>rfl
  cases GZ (st:=st) (cell:=c5) g8 hv hi hw with
  | mk d H9 e9 p9 k9 =>
  refine bz (upd l8 "_law_due_here" (.str d)) λl9 el9=> ?_
  haveI d8:=ah el8 ∅ (ah el7 ∅ d6)
  have o8:=ah el8 ∅ o7
  have w8:=ah el8 ∅ (ah el7 ∅ w6)
  have pl8:=ah el8 ∅ (aA el7)
  have c8:=ah el8 ∅ c7
  haveI t9:yM ⟨l8,H8⟩= .ok .next ⟨l9,H9⟩:=by exists d8,d2,o8,w8,pl8,aA el8,c8,e9,el9
  have L9:L4 ri o way pv st c5 d l9:=⟨ah el9 ∅ (ah el8 ∅ (ah el7 ∅ s6)),ah el9 ∅ (ah el8 ∅ (ah el7 ∅ r6)),ah el9 ∅ o8,ah el9 ∅ w8,ah el9 ∅ pl8,ah el9 ∅ (aA el8),ah el9 ∅ c8,aA el9⟩
  obtain ⟨g9,_⟩:=g8.pre p9
  obtain ⟨l10,H10,col10,r10,t10',g10,lk10,c10,_,n10⟩:=C5 os g9 pm (λe he=>he) L9.r
  haveI t10:vD ⟨l9,H9⟩= .ok .next ⟨l10,H10⟩:=bq (bq (g_get L9.o) (pJ g9.o)) t10'
  have L10:L4 ri o way pv st c5 d l10:=L9.to λy hy=>n10 y λq=>by subst q;revert hy;decide
  have pm10:os.Perm (b7 p len (look r10.ss)):=by rw [lk10];exact pm
  haveI v1:=xD g10.r.rm g10.r.ok
  rw [g10.r.rp] at v1
  have hp40:=g10.r.ok.p
  rw [g10.r.rp] at hp40
  haveI hSl:((cX p (look r10.ss)).filterMap (rH (look r10.ss))).length<=40:=aam (List.length_filterMap_le _ _) (kr p hp40.2 _)
  obtain ⟨n1,H11,f1,p11,_,y1⟩:=v1
  haveI li1:=qw (o:= .ref n1) l10 H11 (fW y1) (by exact cU 0xf4240a00000028a0011 hSl)
  refine bz (H11++[O.list ((cX p (look r10.ss)).filterMap (rH (look r10.ss)))]) λH12 e12=> ?_
  rw [e12] at li1
  have p12:H11<+:H12:=⟨_,e12⟩
  have R12:=g10.r.rm.pre (p11.trans p12)
  haveI v2:=yY R12 g10.r.ok
  haveI hbl:=zf p hp40.2 (look r10.ss)
  rw [g10.r.rp,tS] at v2
  obtain ⟨H13,f2,e13⟩:=v2
  have p13:H12<+:H13:=⟨_,e13.symm⟩
  haveI y2:H13[H12.length]? = some (.list ((pZ p (look r10.ss)).map V.int)):=by rw [e13];exact aY _ _
  haveI li2:=qw (o:= .ref H12.length) l10 H13 (fW y2) (by rw [aai];exact id (cU 0xf4240a00000028a0011 hbl))
  refine bz (H13++[O.list ((pZ p (look r10.ss)).map V.int)]) λH14 e14=> ?_
  rw [e14] at li2
  have p14:H13<+:H14:=⟨_,e14⟩
  haveI x1:H12[H11.length]? = some (.list ((cX p (look r10.ss)).filterMap (rH (look r10.ss)))):=by rw [<- e12];exact aY _ _
  haveI x2:H14[H13.length]? = some (.list ((pZ p (look r10.ss)).map V.int)):=by rw [<- e14];exact aY _ _
  refine bz (upd l10 "_law_before" (.tup [.ref H11.length,.ref H13.length])) λl11 el11=> ?_
  haveI t11:vE ⟨l10,H10⟩= .ok .next ⟨l11,H14⟩:=by
   exists L10.r,aH g10.r.rm (f := "shelves") ∅,f1,li1,aH R12 (f := "pile") ∅,f2,li2,el11
  obtain ⟨g14,_⟩:=g10.pre ((p11.trans p12).trans (p13.trans p14))
  obtain ⟨q',hq⟩:=Dt g14 pm10 c10 (L10.upd el11 ∅) (aA el11) (aG (p13.trans p14) x1) x2 (k9 g14 pm10)
  exact kG ⟨q',ai t5 (ai t6 (ai t7 (ai t8 (ai t9 (ai t10 (ai t11 hq))))))⟩
 cases BK (way:=way) h pm c6 with
 | int k H7 e q=>exact main e q (.inl ⟨k,rfl⟩) λ_=>⟨k,rfl⟩
 | odd v H7 ho w e q=>exact main e q (.inr ho) λhn=>absurd w hn
end
theorem zV (hsn:sn.length<=1000):∃H',Hn [.scr] []= .ok (.bool true) H':=by
 refine oE λG kG=> ?_
 refine bz (aF ["_law_script"] [.scr]) λl0 e0=> ?_
 have a0:l0 "_law_script" = some .scr:=e0▸rfl
 obtain ⟨p,len,xs,za,H1,t,z,hp,hl,hs,hne,h8⟩:=DN
 refine bz (upd l0 "_law_drawn" (.tup [.int p,.int len,.ref za])) λl1 e1=> ?_
 haveI t1:CP ⟨l0,[]⟩= .ok .next ⟨l1,H1⟩:=by exists a0,t,e1
 haveI d0:∀q,aR (.tup [.int p,.int len,.ref za]) (.int 0) q= .ok (.int p) q:=λq=>rfl
 have d1:∀q,aR (.tup [.int p,.int len,.ref za]) (.int 1) q= .ok (.int len) q:=λq=>rfl
 have d2:∀q,aR (.tup [.int p,.int len,.ref za]) (.int 2) q= .ok (.ref za) q:=λq=>rfl
 haveI li:=qw (o:= .ref za) l1 H1 (fW z) (by rw [aai];exact id (cU 0xf4240a00890011 h8))
 refine bz (H1++[O.list (xs.map V.int)]) λH2 eH2=> ?_
 rw [eH2] at li
 haveI mk:=Dw (l:=l1) hp hl hs hne h8 (by rw [<- eH2];exact aY _ _:H2[H1.length]? = some (.list (xs.map V.int)))
 refine bz (H2.length) λpl epl=> ?_
 rw [epl] at mk
 refine bz (H2++[O.flds (jd p len (pl+1)),O.list (xs.map V.int)]) λH eH=> ?_
 rw [eH] at mk
 have z':H[za]? = some (.list (xs.map V.int)):=by rw [<- eH,<- eH2];exact aG ⟨_,rfl⟩ (aG ⟨_,rfl⟩ z)
 have x4:H[pl]? = some (.flds (jd p len (pl+1))):=by rw [<- eH,<- epl];exact xZ H2 _ 0
 have x5:H[pl+1]? = some (.list (xs.map V.int)):=by rw [<- eH,<- epl];exact xZ H2 _ 1
 refine bz (H.length) λn en=> ?_
 haveI r1:=IX (l:=l1) x4 hp hl
 rw [en] at r1
 refine bz (upd l1 "_law_room" (.inst "Room" n)) λl2 e2=> ?_
 have a1:=aA e1
 haveI t2:CQ ⟨l1,H1⟩= .ok .next ⟨l2,H++jK n pl p len⟩:=by exists a1,d0,d1,d2,li,mk,r1,e2
 refine bz ((sn.drop 7).map V.int) λcs ecs=> ?_
 haveI n5:(H++jK n pl p len).length=n+4:=Iw en rfl
 haveI dv:zr .scr (.int 7) ⟨l2,H++jK n pl p len⟩= .ok (.ref (n+4)) ⟨l2,H++(jK n pl p len++[.list cs])⟩:=by
  haveI h1:zr .scr (.int 7) ⟨l2,H++jK n pl p len⟩= .ok (.ref (H++jK n pl p len).length) ⟨l2,H++jK n pl p len++[.list ((sn.map V.int).drop 7)]⟩:=by
   haveI:(sn.map V.int).length<=1000000:=by rw [aai];exact id (cU 0xf4240a000003e8a0011 hsn)
   show (if (0:Int)<=7/\(sn.map V.int).length<=1000000 then _ else _)=_
   rw [if_pos ⟨by decide,this⟩];rfl
  rw [h1,n5,<- List.map_drop,ecs,aae]
 have Gt:∀j,(H++(jK n pl p len++[.list cs]))[n+j]? = (jK n pl p len++[.list cs])[j]? := λj=>by rw [<- en];exact xZ _ _ _
 have P:∀ {i o},H[i]? = some o->(H++(jK n pl p len++[.list cs]))[i]? = some o/\zW n i=0:=λh=>⟨aG ⟨_,rfl⟩ h,ET (en▸cj h)⟩
 haveI lm:pl+1<n:=en▸cj x5
 haveI g:RG 1 (zW n) (H++(jK n pl p len++[.list cs])) p len xs n (Km n pl (pl+1) p len xs):=by
  refine ⟨⟨Gt 0,(P x4).1,(P x5).1,Gt 1,λs h=>(nomatch h),Gt 3⟩,IJ hp hl hs hne (by exact λx9=>cM 0x9096391c190c311190c112 lm x9),rfl,rfl,rfl,λi hi=> ?_,(P x4).2,(P x5).2⟩
  rcases aal.mp hi with e | hi
  ·rw [e];exact qj n 0
  rcases aal.mp hi with e | hi
  ·rw [e];exact qj n 1
  rcases aal.mp hi with e | hi
  ·rw [e];exact qj n 3
  cases hi
 obtain ⟨o,H3,t3',E⟩:=DM (ys:=sn.drop 7) g (P z').1 (P z').2 (by rw [ecs];exact Gt 4) (qj n 4) rfl
 cases E with
 | mk col3 r3 os3 g3 pm3 _ =>
 refine bz (upd l2 "_law_out" (.ref o)) λl3 e3=> ?_
 have a2:=ah e2 ∅ a1
 have a0':=ah e2 ∅ (ah e1 ∅ a0)
 haveI t3:CR ⟨l2,H++jK n pl p len⟩= .ok .next ⟨l3,H3⟩:=by exists a0',dv,aA e2,a2,d1,d2,t3',e3
 haveI t4:CS ⟨l3,H3⟩= .ok .next ⟨l3,H3⟩:=by exists aA e3
 obtain ⟨q',hq⟩:=Du g3 pm3 (ah e3 ∅ a0') (ah e3 ∅ (aA e2)) (ah e3 ∅ a2) (aA e3)
 refine kG ⟨q'.H,aU (m:=Ht) (q:=q') rfl ?_⟩
 rw [e0]
 exact ai t1 (ai t2 (ai t3 (ai t4 hq)))
theorem JX:∀t:Tp,bJ t.G->xL 465 t.G:=gv λC s R a b c d=>IL C (JC C) ∅ a b c (zV (aam C.short ∅)) d
end
end Mine.Lake
open PySem PySem.W PyProof.Rows
namespace Mine.all
def tw10034031380863371641:=True
def tw10073190252686323273:=True
def tw10081088541268293599:=True
def tw10130366669087276332:=True
def tw10131221437080536637:=True
def tw10156424416328317940:=True
def tw10168888151487559394:=True
def tw10252965763247687682:=True
def tw10268101183197098196:=True
def tw10277526245819850656:=True
def tw10289937546816008636:=True
def tw10312239555926195531:=True
def tw10316705163991428254:=True
def tw10323370424266482742:=True
def tw10389294372677164839:=True
def tw10393596885623623503:=True
def tw10407399669362838719:=True
def tw10576110018494610262:=True
def tw10600613889749566790:=True
def tw10636018739910865072:=True
def tw10640303290150162726:=True
def tw10658958392246782621:=True
def tw10681620039792923934:=True
def tw10696458614491829572:=True
def tw10705108097460422218:=True
def tw10793401674749092046:=True
def tw1081408078033650336:=True
def tw10856765595117590405:=True
def tw1087592473283359003:=True
def tw10912467617979834864:=True
def tw10915074446201010522:=True
def tw10921597071642053482:=True
def tw10923070005692675132:=True
def tw1095929389519559783:=True
def tw10985738487003121266:=True
def tw11038128598146805730:=True
def tw11045270430615452010:=True
def tw11051373392699811023:=True
def tw11051709101105081487:=True
def tw11084693905056812178:=True
def tw11091474679367250208:=True
def tw11093295523969242068:=True
def tw11113120797386210373:=True
def tw11116879363250112325:=True
def tw11139934685464864865:=True
def tw11169558830825096451:=True
def tw11230645906715702508:=True
def tw11242623580682996947:=True
def tw11333907896045031016:=True
def tw11375281295658956675:=True
def tw11441816438227186863:=True
def tw11448872678469705673:=True
def tw11488495728068971930:=True
def tw11563076530477234726:=True
def tw11573567738276184859:=True
def tw11639333894188339638:=True
def tw11736780227944870738:=True
def tw11757652711159077200:=True
def tw11776277695535270532:=True
def tw11784725038316003381:=True
def tw11798761498685784450:=True
def tw11928815663860865973:=True
def tw11931136993785318394:=True
def tw11931918283646908614:=True
def tw11961059351148515626:=True
def tw12071712058454129317:=True
def tw12139988101201813748:=True
def tw12165253757503004218:=True
def tw1216898108829112853:=True
def tw12180536567876656950:=True
def tw12221947951091446842:=True
def tw12248520049373816357:=True
def tw12254430714555821875:=True
def tw12267468486907949403:=True
def tw12381699962588209086:=True
def tw12405882331826627501:=True
def tw12428716410969305734:=True
def tw12447178028490564450:=True
def tw125183967897747985:=True
def tw12540455083557110006:=True
def tw12563031120210811263:=True
def tw12580110897883145167:=True
def tw12588980310967471357:=True
def tw12784588452913835247:=True
def tw12803817524326497440:=True
def tw12885334096101347146:=True
def tw12899656968702213925:=True
def tw12926333453430215753:=True
def tw12985212532813657682:=True
def tw1298631472846954095:=True
def tw13027540482245733427:=True
def tw13042374122123996364:=True
def tw13057232943065969744:=True
def tw13098716769926991806:=True
def tw13100642850353945058:=True
def tw13132907815185506690:=True
def tw13135058765949404771:=True
def tw13137606615479501558:=True
def tw13172091369480311280:=True
def tw13185015893256467352:=True
def tw13215351417096909983:=True
def tw1323426155142419162:=True
def tw1326175403826912198:=True
def tw13270532327374429287:=True
def tw1327343985113690801:=True
def tw13283931332471535325:=True
def tw1331230530613945964:=True
def tw13320810954380615167:=True
def tw13338274903956020161:=True
def tw13370487131934946175:=True
def tw13423135486485445016:=True
def tw13463606980367379903:=True
def tw13467292715098799918:=True
def tw13492395982464255480:=True
def tw13492775673106092688:=True
def tw1352723322627576488:=True
def tw13596499734656872166:=True
def tw13607757164722159089:=True
def tw13663018214320142090:=True
def tw13752750167953387420:=True
def tw13900070722340429276:=True
def tw13912068318134460016:=True
def tw13928513891281363954:=True
def tw13930999109560414629:=True
def tw13960862262899742394:=True
def tw14003663102062188800:=True
def tw14074921412963316263:=True
def tw14076077854437140390:=True
def tw14081932915414352519:=True
def tw14099800850047386279:=True
def tw14106571916235994328:=True
def tw14204109254541194217:=True
def tw14242173848286271349:=True
def tw14274756557212989909:=True
def tw14288127532215574351:=True
def tw14310873030558110092:=True
def tw14331890051309236264:=True
def tw14420213329864412023:=True
def tw14421808642430287336:=True
def tw14444207656584330654:=True
def tw1446736226897199258:=True
def tw14523845485542788104:=True
def tw14539000326390715668:=True
def tw14647661154017913664:=True
def tw14648097213134440425:=True
def tw14684334882675511859:=True
def tw14721843458392949018:=True
def tw14822214895437561417:=True
def tw14832718209330476552:=True
def tw14848961488311411958:=True
def tw14849280956162755979:=True
def tw14883968960377749705:=True
def tw14899674885815798178:=True
def tw14929683446248860828:=True
def tw14970210157437980911:=True
def tw14984247238865676675:=True
def tw15014361466247048854:=True
def tw15054863418237798948:=True
def tw15059917014629022394:=True
def tw15081044799308232511:=True
def tw15097909243742831393:=True
def tw15105651507014581045:=True
def tw15151187641303801864:=True
def tw15158558636265767147:=True
def tw15176617289070330970:=True
def tw15198316981687975854:=True
def tw15248031165874397040:=True
def tw15305453227285626446:=True
def tw15389465554420088467:=True
def tw15393178847056368160:=True
def tw15395915194887548817:=True
def tw15414233836422861205:=True
def tw15451204947285891726:=True
def tw15519761934197397234:=True
def tw15575253945988166476:=True
def tw15618092478124507917:=True
def tw15651733941924773997:=True
def tw15670805634923389295:=True
def tw15766547542915688834:=True
def tw15778654729900951400:=True
def tw15849158762323818722:=True
def tw15888951733556516598:=True
def tw15902913901339227234:=True
def tw15906484144062456574:=True
def tw15926794790568321017:=True
def tw16183010546200382306:=True
def tw16223638597430114740:=True
def tw1623444026076324013:=True
def tw16288533217561068507:=True
def tw16296590348105434372:=True
def tw16339503202031470875:=True
def tw16400751074865733910:=True
def tw1644255569911684797:=True
def tw16457593375850944212:=True
def tw16573077582942348641:=True
def tw16644902639655322133:=True
def tw16665526110328478529:=True
def tw16694476904998839863:=True
def tw16700318575013349798:=True
def tw16720883766928916882:=True
def tw16727532447511142511:=True
def tw16739083755425606968:=True
def tw16740921855470316824:=True
def tw16747629065405408630:=True
def tw16773635481313006432:=True
def tw16779862611959906862:=True
def tw16838893715234930207:=True
def tw16857469709051444266:=True
def tw1694654335647164047:=True
def tw16987476370533704557:=True
def tw17053130121481772103:=True
def tw17133528431856770972:=True
def tw17259241986408110582:=True
def tw17260577670642009320:=True
def tw17292822351017121783:=True
def tw17314943208353570444:=True
def tw17360653242477243975:=True
def tw17368901067910498557:=True
def tw17394647144938102915:=True
def tw17447734377096445370:=True
def tw17468886310826310451:=True
def tw17469454598705902373:=True
def tw17485024515217194642:=True
def tw17523770736405063376:=True
def tw17558465517493045558:=True
def tw1758426702102747128:=True
def tw17590515576409907731:=True
def tw1768962640154500726:=True
def tw17717444079117462278:=True
def tw17740860788197283744:=True
def tw17772726858579744284:=True
def tw17800948086707717751:=True
def tw17846619120630023766:=True
def tw17899929404969355535:=True
def tw17983917188297756147:=True
def tw18003279642469066050:=True
def tw18058516629519361111:=True
def tw18068929663759586442:=True
def tw18074533905802821072:=True
def tw18094267598192979275:=True
def tw18111398738982083773:=True
def tw18118164260907729349:=True
def tw18120535436291149196:=True
def tw18280367432782476751:=True
def tw18291108133853008933:=True
def tw1832691508475867565:=True
def tw18343157571677020557:=True
def tw18369841484834026144:=True
def tw18401889546383288612:=True
def tw18422150028754028023:=True
def tw18433079168191953831:=True
def tw18433669859833586122:=True
def tw18440353960458814819:=True
def tw18441473437031201941:=True
def tw1936919636151931087:=True
def tw1963270939698246839:=True
def tw1985402699469526011:=True
def tw2000609977361463965:=True
def tw200202858802481044:=True
def tw200952908838891698:=True
def tw2013830700403712203:=True
def tw201708328148552895:=True
def tw2020152571437148077:=True
def tw2054712967208431000:=True
def tw2235618017368140517:=True
def tw225468126006155290:=True
def tw2316775634158704177:=True
def tw2362829445674453831:=True
def tw2366535826993118143:=True
def tw2406872565856053176:=True
def tw2412950195513398651:=True
def tw2442836877315861853:=True
def tw2479237469882504799:=True
def tw2496985677507960046:=True
def tw2516617250373598065:=True
def tw2528524926150008927:=True
def tw2531900633515307401:=True
def tw2543849888741498996:=True
def tw2627396739876165418:=True
def tw2638793534194840904:=True
def tw2690882624139800689:=True
def tw2711446468545577505:=True
def tw2750322548573693319:=True
def tw2792250951161479536:=True
def tw281770217567036725:=True
def tw282076826160197541:=True
def tw282994513109133150:=True
def tw2839102612107896599:=True
def tw2842816785644039571:=True
def tw2863937026978368667:=True
def tw29985565223642888:=True
def tw3020832510069240704:=True
def tw306535358961565008:=True
def tw3108443244893856389:=True
def tw3138800457800853586:=True
def tw3140866203998610647:=True
def tw3165661143165402847:=True
def tw3185962312253278316:=True
def tw3282140407130366615:=True
def tw3292330881428724558:=True
def tw3298683737301795645:=True
def tw3339628229899013760:=True
def tw3357559941945735724:=True
def tw3390864358609898268:=True
def tw3399791084645182560:=True
def tw3448833343719912132:=True
def tw3468823194966119755:=True
def tw3477183460249832127:=True
def tw3506556867826905222:=True
def tw3527972740633252992:=True
def tw3578222212851893600:=True
def tw3586251380002802234:=True
def tw3630066180865283129:=True
def tw3737605839529819480:=True
def tw3804168243799541492:=True
def tw3832104259330054055:=True
def tw3835962111665225711:=True
def tw3849640880644552707:=True
def tw3855190133869164905:=True
def tw3949192924188805160:=True
def tw397829171339713761:=True
def tw4049413732980777947:=True
def tw407466490171300439:=True
def tw4154878040674242839:=True
def tw4156143147478942181:=True
def tw4214497047443048748:=True
def tw4215066571649420964:=True
def tw4241227540667249002:=True
def tw4244794441018138637:=True
def tw4258606087713283508:=True
def tw4302931102428780990:=True
def tw4338314545742005754:=True
def tw4350801690150286559:=True
def tw4382491568596388571:=True
def tw44263415142174766:=True
def tw4430775014708722610:=True
def tw4438364104728389296:=True
def tw4498182102138418894:=True
def tw4515135292898193881:=True
def tw4544264296663088324:=True
def tw4547723090059260100:=True
def tw4595874423135296379:=True
def tw4613487602407358717:=True
def tw4613981591765525805:=True
def tw4631590275013254457:=True
def tw4634341240264483431:=True
def tw4645612490112672357:=True
def tw4716985721665009587:=True
def tw4722931859811370693:=True
def tw4726450323565452186:=True
def tw4734295533608761528:=True
def tw4786962568827011835:=True
def tw4801688742562958406:=True
def tw4814944892674192296:=True
def tw4831860214510110302:=True
def tw4835796080096327916:=True
def tw4847766330237268548:=True
def tw4874642235004048027:=True
def tw4907521953547317329:=True
def tw4927947371108770993:=True
def tw4942582282674782268:=True
def tw4965207536615798822:=True
def tw497388943360791162:=True
def tw4983024317834737482:=True
def tw5002070824922625533:=True
def tw5007245332940595331:=True
def tw5044639097624668846:=True
def tw5103420120806187630:=True
def tw5103548895888603802:=True
def tw5162543521180666497:=True
def tw5180124137545327432:=True
def tw5187159431361770467:=True
def tw5191467471856622273:=True
def tw5213130599944360801:=True
def tw5217560924200664910:=True
def tw5221675337516389627:=True
def tw5247617807198155932:=True
def tw5362506446432344171:=True
def tw5377772837010204750:=True
def tw5439016543574858206:=True
def tw5440085390276978291:=True
def tw5463181917568680212:=True
def tw549974085012918235:=True
def tw5543487718492105064:=True
def tw5555718599999811639:=True
def tw5615934883764171431:=True
def tw5646013916729498261:=True
def tw5646740079091317433:=True
def tw5657931515703916248:=True
def tw5718967094426423161:=True
def tw5727973534668710794:=True
def tw5736023835603284372:=True
def tw5747321363474778693:=True
def tw5750698986362780913:=True
def tw5761313309558253367:=True
def tw5781126440621211168:=True
def tw5870148494974776200:=True
def tw5884965284304258897:=True
def tw5919330448614353153:=True
def tw5931688323066260514:=True
def tw596421839371371174:=True
def tw6169999212503205497:=True
def tw6178583632892115015:=True
def tw6189357195160471388:=True
def tw6223034424235540279:=True
def tw6271033356711949733:=True
def tw6339813644084220483:=True
def tw6393532188824929214:=True
def tw6405578165278201989:=True
def tw6495733333828780514:=True
def tw6635522753158126860:=True
def tw6648324312943424196:=True
def tw6651456455751515877:=True
def tw6656463916972431421:=True
def tw6674347012523051200:=True
def tw6686757251022233349:=True
def tw6717767316833874322:=True
def tw6742200501135914891:=True
def tw6758946091281148827:=True
def tw6836359950869179439:=True
def tw6849123771955923804:=True
def tw6853843781069519680:=True
def tw6860577389561355601:=True
def tw6873541528101158377:=True
def tw6888782338466086140:=True
def tw6900727353157573822:=True
def tw6946980451890315270:=True
def tw6950096446663180783:=True
def tw7091565871241343341:=True
def tw7159026401054745538:=True
def tw7205895575636617080:=True
def tw7255959162708018199:=True
def tw7272270352196073673:=True
def tw7317653850160689691:=True
def tw7347299435816893626:=True
def tw7347661181068853997:=True
def tw7400686549319467544:=True
def tw7514489123796633772:=True
def tw7546461858588002845:=True
def tw7619113539625694710:=True
def tw7660858615051961871:=True
def tw766856551031688912:=True
def tw76700771618905059:=True
def tw7686242042924871683:=True
def tw7755422918602135030:=True
def tw7778630667622746703:=True
def tw7779866328928976063:=True
def tw7824222052329908659:=True
def tw7848317997028865603:=True
def tw7855422573467142813:=True
def tw785864177541677141:=True
def tw7898559521017583957:=True
def tw7916160540357663616:=True
def tw7918374967389245632:=True
def tw7946034326556018432:=True
def tw8007103614756019116:=True
def tw8013882960148741844:=True
def tw8026366407565007962:=True
def tw8076105961534405009:=True
def tw8096221689764760052:=True
def tw8108845850537571710:=True
def tw8111057081096800836:=True
def tw8146785798897364014:=True
def tw8183209053709734173:=True
def tw8203446524507428889:=True
def tw8316665608867782698:=True
def tw8322597137079436277:=True
def tw8398887430952950212:=True
def tw8401958774316805891:=True
def tw8486705261324164726:=True
def tw8543756510809834644:=True
def tw8593244855664925795:=True
def tw8600759836979252552:=True
def tw8616835277999145119:=True
def tw8670540905479144303:=True
def tw8678582069086723682:=True
def tw8689057759390064058:=True
def tw8711421783369662179:=True
def tw8728704332973717658:=True
def tw8749193726656077916:=True
def tw8820459466428253018:=True
def tw884644925536651315:=True
def tw8865166961438382494:=True
def tw888978351763286717:=True
def tw8908958038130373740:=True
def tw8909644736058714228:=True
def tw8968355716326206664:=True
def tw898707613593260451:=True
def tw9069304868558884969:=True
def tw9090173269774583996:=True
def tw9099960808112739735:=True
def tw9111709882147129655:=True
def tw9131408386013701786:=True
def tw9133701021851612117:=True
def tw9163178095015654352:=True
def tw9199061776082140725:=True
def tw927500100414286832:=True
def tw9285670843845949155:=True
def tw9301309066579124778:=True
def tw9305783451064888827:=True
def tw9351078540693612215:=True
def tw9385597778382524922:=True
def tw9405301459192476718:=True
def tw9448091282758670523:=True
def tw9496632788025766839:=True
def tw9514876090768664877:=True
def tw9526568234960664165:=True
def tw9583210561881525909:=True
def tw9592678889267232940:=True
def tw9600454056292803967:=True
def tw9642480246203547912:=True
def tw9700507354520375304:=True
def tw9833964599435250050:=True
def tw9900696922168193843:=True
def tw9951171829245705095:=True
def tw9976896545867408452:=True
end Mine.all
theorem Mine.Lake.frag_in {K K' : Frag} {h : Heap} (X : K.In h) (e : (K'.map fun p => K.lookup p.1) = K'.map fun p => some p.2) : K'.In h := fun a o hl => by
  have hm := Mine.Lake.bk hl
  have : ∀ l : Frag, (l.map fun p => K.lookup p.1) = (l.map fun p => some p.2) → (a, o) ∈ l → K.lookup a = some o := fun l => by
    induction l with
    | nil => intro _ h; cases h
    | cons p r ih =>
      intro e h
      rw [List.map_cons, List.map_cons, List.cons.injEq] at e
      rcases List.mem_cons.mp h with rfl | h
      · exact e.1
      · exact ih e.2 h
  exact X a o (this K' e hm)
set_option Elab.async true
theorem Mine.all : PySem.Challenge.rw_uf060003_04.Holds := by
  w_on; o_law; k_head; (case hw => w_witness2)
  intro w s₀ s₁ mg mb G Y fa o pm cd doc dV kV ho hd hcd hD hmg hg args vals as hpre hlay hrd hwl hlo
  have KY := kIn_of Y
  have KX : (Mine.Lake.K0 w.params).In s₁.heap := Mine.Lake.frag_in KY (by kernel_rfl)
  refine Ground.open G ?_
  intro T B D TE TW
  clear hd hcd hD ho
  wrow_args hpre hlay hrd hwl hlo
  rename_i sn _ _ _ _ _ _ _ sa sv _ hL _ _ _ hI _ hlen _
  have hfa : fa = 465 := by
    have h1 : nsIn (Mine.Lake.K0 w.params) mainGlobals (Str.ofString "law") = some (some (.ref 465)) := by kernel_rfl
    have h2 := mg_of KX T.g h1
    have h3 : mg (Str.ofString "law") = some (.ref fa) := hmg
    rw [h2] at h3; injection h3 with h3; injection h3 with h3; exact h3.symm
  subst hfa
  have C : Mine.Lake.bJ (Mine.Lake.Gx w s₁.heap s₁.os mg mb sa sv sn) := ⟨KX, T.g, T.b, T.builtins, T.nolimit, T.seer (by decide +kernel), rfl, hL, hI, by show sn.length ≤ 63; omega⟩
  refine enter_call (Mine.Lake.JX ⟨w, s₁.heap, s₁.os, mg, mb, sa, sv, sn⟩ C s₁ _ rfl rfl hg fun s' hk hos hgn => GoodW.toG ⟨.inl ⟨.bool true, .bool true, [], rfl, fun cls => rfl, .bool true, by kernel_rfl, fun _ => ⟨List.nodup_nil, nofun⟩⟩, hk, hos, hgn⟩)
theorem PySem.Challenge.cw_uf060003_04_holds : PySem.Challenge.rw_uf060003_04.Holds :=
  Mine.all
