import PyProof.Rows.All
import Wide.All
import OpenK.AllK
import Wide.FinOn
import PySem.Challenge.RW_uf060003_08
set_option linter.all false
set_option Elab.async false
set_option compiler.extract_closed false
set_option maxRecDepth 100000
set_option maxHeartbeats 8000000
set_option genInjectivity false
set_option genSizeOf false
set_option genSizeOfSpec false
set_option bootstrap.genMatcherCode false
universe u
namespace Mine.Lake
noncomputable section
local macro_rules
 | `(∅) => `(by first | kernel_rfl | decide | decide +kernel)
theorem bH {α:Type} (t:α) {P:Prop} (h:∀x,t=x->P):P:=h t rfl
structure A3 (p0 p1 p2:Prop):Prop where
 h0:p0
 h1:p1
 h2:p2
inductive A4 (p0 p1 p2 p3:Prop):Prop
 | mk (h0:p0) (h1:p1) (h2:p2) (h3:p3)
inductive A5 (p0 p1 p2 p3 p4:Prop):Prop
 | mk (h0:p0) (h1:p1) (h2:p2) (h3:p3) (h4:p4)
inductive A6 (p0 p1 p2 p3 p4 p5:Prop):Prop
 | mk (h0:p0) (h1:p1) (h2:p2) (h3:p3) (h4:p4) (h5:p5)
inductive A7 (p0 p1 p2 p3 p4 p5 p6:Prop):Prop
 | mk (h0:p0) (h1:p1) (h2:p2) (h3:p3) (h4:p4) (h5:p5) (h6:p6)
inductive A8 (p0 p1 p2 p3 p4 p5 p6 p7:Prop):Prop
 | mk (h0:p0) (h1:p1) (h2:p2) (h3:p3) (h4:p4) (h5:p5) (h6:p6) (h7:p7)
inductive JL (p0 p1 p2 p3 p4 p5 p6 p7 p8 p9 p10:Prop):Prop
 | mk (h0:p0) (h1:p1) (h2:p2) (h3:p3) (h4:p4) (h5:p5) (h6:p6) (h7:p7) (h8:p8) (h9:p9) (h10:p10)
abbrev aaa:=@Nat.sub_add_cancel
abbrev aab:=@List.getElem?_eq_some_iff
abbrev aac:=@List.length_append
abbrev aad:=@List.append_assoc
abbrev aae:=@List.mem_map
abbrev aaf:=@Nat.le_antisymm
abbrev aag:=@List.mem_singleton
abbrev aah:=@List.mem_cons
abbrev aai:=@Int.toNat_of_nonneg
abbrev aaj:=@List.prefix_refl
abbrev aak:=@List.length_map
abbrev aal:=@PySem.Heap.get?_push_of_some
abbrev aam:=@Nat.le_trans
abbrev aan:=@List.mem_append
abbrev aao:=@List.getElem?_eq_getElem
abbrev aap:=@List.pairwise_append
abbrev aaq:=@List.getElem?_append_right
abbrev aar:=@Nat.lt_or_gt_of_ne
abbrev aas:=@List.map_cons
abbrev aat:=@List.mem_append_right
abbrev aau:=@List.length_cons
abbrev aav:=@List.mem_map_of_mem
abbrev aaw:=@List.getElem?_append_left
abbrev aax:=@List.mem_reverse
abbrev aay:=@List.find?_cons_of_neg
abbrev aaz:=@List.prefix_append
abbrev aaA:=@Array.getElem?_toList
abbrev aaB:=@List.getElem?_set_self
abbrev aaC:=@List.getElem?_set_ne
abbrev aaD:=@List.mem_filter
abbrev aaE:=@List.mem_append_left
abbrev aaF:=@Nat.add_sub_cancel_left
abbrev aaG:=@List.find?_cons_of_pos
abbrev aaH:=@Int.self_le_toNat
abbrev aaI:=@List.mem_of_getElem?
abbrev aaJ:=@List.pairwise_cons
abbrev aaK:=@Nat.le_add_right
abbrev aaL:=@Nat.le_refl
abbrev aaM:=@PySem.Heap.get?_push_size
abbrev aaN:=@Bool.and_eq_true_iff
abbrev aaO:=@PySem.Heap.get?_none_of_le
abbrev aaP:=@List.nodup_cons
abbrev aaQ:=@List.map_map
abbrev aaR:=@Option.isSome_iff_exists
abbrev aaS:=@List.flatMap_cons
abbrev aaT:=@List.mem_of_find?_eq_some
abbrev aaU:=@List.filter_cons_of_pos
abbrev aaV:=@List.filter_cons_of_neg
abbrev aaW:=@List.length_singleton
abbrev aaX:=@Nat.lt_of_lt_of_le
abbrev aaY:=@List.pairwise_map
abbrev aaZ:=@Nat.sub_eq_zero_of_le
abbrev aa0:=@List.take_append_drop
abbrev aa1:=@List.size_toArray
abbrev aa2:=@Array.length_toList
abbrev aa3:=@Array.toList_append
abbrev aa4:=@Int.le_antisymm
abbrev aa5:=@Bool.false_ne_true
abbrev aa6:=@Nat.zero_add
abbrev aa7:=@List.map_append
abbrev aa8:=@List.length_filter_le
abbrev aa9:=@Int.le_trans
abbrev aba:=@List.cons_append
abbrev abb:=@List.count_cons_of_ne
abbrev abc:=@Nat.le_of_ble_eq_true
abbrev abd:=@List.length_reverse
abbrev abe:=@List.pairwise_singleton
abbrev abf:=@List.map_congr_left
inductive Tm where
 | v (i:Nat)
 | n (k:Nat)
 | a (x y:Tm)
 | m (k:Nat) (x:Tm)
 | s (x y:Tm)
 | c (x:Tm)
 | g (x:Tm)
@[reducible] noncomputable def bI {α:Sort u} (b:Bool) (x y:α):α:=Bool.rec y x b
@[reducible] noncomputable def ixA {α:Type} (z:α):List α->Nat->α
 | [],_=>z
 | x::_,0=>x
 | _::t,i+1=>ixA z t i
@[reducible] noncomputable def Tm.N (A:List Nat):Tm->Nat
 | .v i=>ixA 0 A i
 | .n k=>k
 | .a x y=>x.N A+y.N A
 | .m k x=>k*x.N A
 | .s _ _=>0
 | .c _=>0
 | .g _=>0
@[reducible] noncomputable def Tm.I (A:List Nat) (B:List Int):Tm->Int
 | .v i=>ixA 0 B i
 | .n k=>Int.ofNat k
 | .a x y=>x.I A B+y.I A B
 | .m k x=>Int.ofNat k*x.I A B
 | .s x y=>x.I A B-y.I A B
 | .c x=>Nat.cast (x.N A)
 | .g x => -x.I A B
noncomputable def DF:List Int->List Int->List Int
 | [],q=>q
 | p,[]=>p
 | a::p,b::q=>(a+b)::DF p q
noncomputable def Hs:Nat->List Int
 | 0=>[1]
 | i+1=>0::Hs i
noncomputable def sO:List Int->List Int->Int
 | x::A,c::p=>c*x+sO A p
 | _,_=>0
theorem ph (A:List Int):sO A []=0:=by cases A<;>rfl
theorem G1 (a b c d:Int):a+b+(c+d)=a+c+(b+d):=by rw [Int.add_assoc,Int.add_assoc,Int.add_left_comm b]
theorem wS:∀(A p q:List Int),sO A (DF p q)=sO A p+sO A q
 | [],p,q=>rfl
 | x::A,[],q=>(Int.zero_add _).symm
 | x::A,a::p,[]=>(Int.add_zero _).symm
 | x::A,a::p,b::q=>by
  show (a+b)*x+sO A (DF p q)=(a*x+sO A p)+(b*x+sO A q)
  rw [wS A p q,Int.add_mul];exact G1 _ _ _ _
theorem zR (k:Int):∀(A p:List Int),sO A (p.map (k * ·))=k*sO A p
 | [],p=>(Int.mul_zero k).symm
 | x::A,[]=>(Int.mul_zero k).symm
 | x::A,a::p=>by
  show k*a*x+sO A (p.map (k * ·))=k*(a*x+sO A p)
  rw [zR k A p,Int.mul_add,Int.mul_assoc]
theorem zT:∀(A:List Int) (i:Nat),sO A (Hs i)=ixA 0 A i
 | [],0=>rfl
 | [],_+1=>rfl
 | x::A,0=>by show 1*x+sO A []=x;rw [ph,Int.one_mul,Int.add_zero]
 | x::A,i+1=>by show 0*x+sO A (Hs i)=ixA 0 A i;rw [zT A i,Int.zero_mul,Int.zero_add]
theorem Bd:∀(A:List Nat) (i:Nat),ixA 0 (A.map Nat.cast) i=((ixA 0 A i:Nat):Int)
 | [],_=>rfl
 | _::_,0=>rfl
 | _::A,i+1=>Bd A i
structure Fm where
 k:Int
 p:List Int
 q:List Int
noncomputable def Fm.e (A:List Nat) (B:List Int) (f:Fm):Int:=f.k+sO (A.map Nat.cast) f.p+sO B f.q
noncomputable def Fm.add (f g:Fm):Fm:=⟨f.k+g.k,DF f.p g.p,DF f.q g.q⟩
noncomputable def Fm.sc (c:Int) (f:Fm):Fm:=⟨c*f.k,f.p.map (c * ·),f.q.map (c * ·)⟩
section
variable (A:List Nat) (B:List Int)
theorem Fm.e_add (f g:Fm):(f.add g).e A B=f.e A B+g.e A B:=by
 unfold Fm.e Fm.add;dsimp only;rw [wS,wS,G1 f.k,G1]
theorem Fm.e_sc (c:Int) (f:Fm):(f.sc c).e A B=c*f.e A B:=by
 unfold Fm.e Fm.sc;dsimp only;rw [zR,zR,Int.mul_add,Int.mul_add]
theorem Fm.e_k (k:Int):(Fm.mk k [] []).e A B=k:=by unfold Fm.e;dsimp only;rw [ph,ph,Int.add_zero,Int.add_zero]
noncomputable def Tm.LN:Tm->Fm
 | .v i=>⟨0,Hs i,[]⟩
 | .n k=>⟨k,[],[]⟩
 | .a x y=>x.LN.add y.LN
 | .m k x=>x.LN.sc k
 | _=>⟨0,[],[]⟩
noncomputable def Tm.LI:Tm->Fm
 | .v i=>⟨0,[],Hs i⟩
 | .n k=>⟨k,[],[]⟩
 | .a x y=>x.LI.add y.LI
 | .m k x=>x.LI.sc k
 | .s x y=>x.LI.add (y.LI.sc (-1))
 | .c x=>x.LN
 | .g x=>x.LI.sc (-1)
theorem Tm.eN:∀t:Tm,t.LN.e A B=((t.N A:Nat):Int)
 | .v i=>by show 0+sO (A.map Nat.cast) (Hs i)+sO B []=_;rw [zT,ph,Bd,Int.zero_add,Int.add_zero]
 | .n k=>Fm.e_k A B k
 | .a x y=>by show (x.LN.add y.LN).e A B=_;rw [Fm.e_add,Tm.eN x,Tm.eN y];rfl
 | .m k x=>by show (x.LN.sc k).e A B=_;rw [Fm.e_sc,Tm.eN x];rfl
 | .s _ _=>Fm.e_k A B 0
 | .c _=>Fm.e_k A B 0
 | .g _=>Fm.e_k A B 0
theorem Tm.eI:∀t:Tm,t.LI.e A B=t.I A B
 | .v i=>by show 0+sO (A.map Nat.cast) []+sO B (Hs i)=_;rw [zT,ph,Int.zero_add,Int.zero_add]
 | .n k=>Fm.e_k A B k
 | .a x y=>by show (x.LI.add y.LI).e A B=_;rw [Fm.e_add,Tm.eI x,Tm.eI y]
 | .m k x=>by show (x.LI.sc k).e A B=_;rw [Fm.e_sc,Tm.eI x];rfl
 | .s x y=>by show (x.LI.add (y.LI.sc (-1))).e A B=_;rw [Fm.e_add,Fm.e_sc,Tm.eI x,Tm.eI y,Int.neg_mul,Int.one_mul];rfl
 | .c x=>Tm.eN A B x
 | .g x=>by show (x.LI.sc (-1)).e A B=_;rw [Fm.e_sc,Tm.eI x,Int.neg_mul,Int.one_mul]
@[reducible] noncomputable def opD {α:Type} [LE α] [LT α]:Nat->α->α->Prop
 | 0,x,y=>x<=y
 | 1,x,y=>x<y
 | 2,x,y=>x=y
 | 3,x,y=>x=y
 | 4,x,y=> ¬x<=y
 | 5,x,y=> ¬x<y
 | _,_,_=>False
noncomputable def I3:Nat->Fm->Fm->Fm
 | 0,x,y=>y.add (x.sc (-1))
 | 1,x,y=>(y.add (x.sc (-1))).add ⟨-1,[],[]⟩
 | 2,x,y=>y.add (x.sc (-1))
 | 3,x,y=>x.add (y.sc (-1))
 | 4,x,y=>(x.add (y.sc (-1))).add ⟨-1,[],[]⟩
 | 5,x,y=>x.add (y.sc (-1))
 | _,_,_=>⟨0,[],[]⟩
theorem I4 {a b:Int} (h:a<=b):0<=b + -1*a:=by rw [Int.neg_mul,Int.one_mul];exact Int.sub_nonneg.mpr h
theorem JJ {a b:Int} (h:a<b):0<=b + -1*a + -1:=by rw [Int.neg_mul,Int.one_mul];exact Int.sub_nonneg.mpr (Int.le_sub_left_of_add_le h)
theorem qG (κ:Nat) (f g:Fm) (h:opD κ (f.e A B) (g.e A B)):0<=(I3 κ f g).e A B:=by
 match κ,h with
 | 0,h=>show 0<=(g.add (f.sc (-1))).e A B;rw [Fm.e_add,Fm.e_sc];exact I4 h
 | 1,h=>show 0<=((g.add (f.sc (-1))).add _).e A B;rw [Fm.e_add,Fm.e_add,Fm.e_sc,Fm.e_k];exact JJ h
 | 2,h=>show 0<=(g.add (f.sc (-1))).e A B;rw [Fm.e_add,Fm.e_sc];exact I4 (Int.le_of_eq h)
 | 3,h=>show 0<=(f.add (g.sc (-1))).e A B;rw [Fm.e_add,Fm.e_sc];exact I4 (Int.le_of_eq (Eq.symm h))
 | 4,h=>show 0<=((f.add (g.sc (-1))).add _).e A B;rw [Fm.e_add,Fm.e_add,Fm.e_sc,Fm.e_k];exact JJ (Int.not_le.mp h)
 | 5,h=>show 0<=(f.add (g.sc (-1))).e A B;rw [Fm.e_add,Fm.e_sc];exact I4 (Int.not_lt.mp h)
 | _+6,h=>exact h.elim
noncomputable def Jp:Nat->Nat
 | 0=>4
 | 1=>5
 | 4=>0
 | 5=>1
 | _=>6
theorem DU (κ:Nat) (f g:Fm) (h:¬opD κ (f.e A B) (g.e A B)):0<=(I3 (Jp κ) f g).e A B:=by
 match κ,h with
 | 0,h=>exact qG A B 4 f g h
 | 1,h=>exact qG A B 5 f g h
 | 2,_=>exact Int.le_of_eq (Fm.e_k A B 0).symm
 | 3,_=>exact Int.le_of_eq (Fm.e_k A B 0).symm
 | 4,h=>exact qG A B 0 f g (Classical.not_not.mp h)
 | 5,h=>exact qG A B 1 f g (Classical.not_not.mp h)
 | _+6,_=>exact Int.le_of_eq (Fm.e_k A B 0).symm
theorem yV (κ:Nat) (x y:Nat):opD κ x y↔opD κ (x:Int) (y:Int):=by
 match κ with
 | 0=>exact Int.ofNat_le.symm
 | 1=>exact Int.ofNat_lt.symm
 | 2=>exact Int.ofNat_inj.symm
 | 3=>exact Int.ofNat_inj.symm
 | 4=>exact not_congr Int.ofNat_le.symm
 | 5=>exact not_congr Int.ofNat_lt.symm
 | _+6=>exact Iff.rfl
end
@[reducible] noncomputable def rdT:Nat->Nat->Tm×Nat
 | 0,c=>(.n 0,c)
 | f+1,c =>
  bI (Nat.ble (c%16) 7) (.v (c%16),c/16) (
  bI (Nat.beq (c%16) 8) (.v (8+c/16%16),c/256) (
  bI (Nat.beq (c%16) 9) (.n (c/16%16),c/256) (
  bI (Nat.beq (c%16) 10) (.n (c/16%16777216),c/268435456) (
  bI (Nat.beq (c%16) 11) (bI (Nat.beq (c/16%16) 0) (.n 16777216,c/256) (.g (rdT f (c/256)).1,(rdT f (c/256)).2)) (
  bI (Nat.beq (c%16) 12) (.a (rdT f (c/16)).1 (rdT f (rdT f (c/16)).2).1,(rdT f (rdT f (c/16)).2).2) (
  bI (Nat.beq (c%16) 13) (.m (c/16%256) (rdT f (c/4096)).1,(rdT f (c/4096)).2) (
  bI (Nat.beq (c%16) 14) (.s (rdT f (c/16)).1 (rdT f (rdT f (c/16)).2).1,(rdT f (rdT f (c/16)).2).2)
  (.c (rdT f (c/16)).1,(rdT f (c/16)).2))))))))
structure Cn where
 κ:Nat
 l:Tm
 r:Tm
@[reducible] noncomputable def Cn.d (A:List Nat) (B:List Int) (x:Cn):Prop :=
 bI (Nat.ble x.κ 7) (opD x.κ (x.l.N A) (x.r.N A)) (opD (x.κ-8) (x.l.I A B) (x.r.I A B))
noncomputable def Cn.f (x:Cn) (κ:Nat->Nat):Fm :=
 bI (Nat.ble x.κ 7) (I3 (κ x.κ) x.l.LN x.r.LN) (I3 (κ (x.κ-8)) x.l.LI x.r.LI)
@[reducible] noncomputable def rdC (c:Nat):Cn×Nat:=(⟨c%16,(rdT 20 (c/16)).1,(rdT 20 (rdT 20 (c/16)).2).1⟩,(rdT 20 (rdT 20 (c/16)).2).2)
@[reducible] noncomputable def Im (A:List Nat) (B:List Int):Nat->Nat->Prop
 | 0,c=>(rdC c).1.d A B
 | n+1,c=>(rdC (c/16)).1.d A B->Im A B n (rdC (c/16)).2
noncomputable def Jw (f:Fm):Bool:=decide (f.k<0)&&f.p.all (λc=>decide (c<=0))&&f.q.all (λc=>decide (c=0))
noncomputable def Jn:Nat->Nat->Fm->Bool
 | 0,c,f=>Jw (f.add ((rdC c).1.f Jp))
 | n+1,c,f=>Jn n (rdC (c/16)).2 (f.add (((rdC (c/16)).1.f id).sc (Int.ofNat (c%16))))
section
variable (A:List Nat) (B:List Int)
theorem Cn.ok (x:Cn) (h:x.d A B):0<=(x.f id).e A B:=by
 unfold Cn.d at h;unfold Cn.f
 cases e:Nat.ble x.κ 7 with
 | true=>rw [e] at h;exact qG A B _ _ _ (by rw [Tm.eN,Tm.eN];exact (yV _ _ _).mp h)
 | false=>rw [e] at h;exact qG A B _ _ _ (by rw [Tm.eI,Tm.eI];exact h)
theorem Cn.no (x:Cn) (h:¬x.d A B):0<=(x.f Jp).e A B:=by
 unfold Cn.d at h;unfold Cn.f
 cases e:Nat.ble x.κ 7 with
 | true=>rw [e] at h;exact DU A B _ _ _ (by rw [Tm.eN,Tm.eN];exact λh'=>h ((yV _ _ _).mpr h'))
 | false=>rw [e] at h;exact DU A B _ _ _ (by rw [Tm.eI,Tm.eI];exact h)
theorem AX:∀(A:List Nat) (p:List Int),p.all (λc=>decide (c<=0))=true->sO (A.map Nat.cast) p<=0
 | [],_,_=>Int.le_refl 0
 | _::_,[],_=>Int.le_refl 0
 | x::A,c::p,h=>by
  have h:=aaN.mp h
  exact Int.add_le_add (Int.mul_nonpos_of_nonpos_of_nonneg (of_decide_eq_true h.1) (Int.natCast_nonneg x)) (AX A p h.2)
theorem yh:∀(B p:List Int),p.all (λc=>decide (c=0))=true->sO B p=0
 | [],_,_=>rfl
 | _::_,[],_=>rfl
 | x::B,c::p,h=>by
  have h:=aaN.mp h
  show c*x+sO B p=0
  rw [of_decide_eq_true h.1,yh B p h.2,Int.zero_mul];rfl
theorem GX (f:Fm) (h:Jw f=true) (h2:0<=f.e A B):False:=by
 have h:=aaN.mp h
 have h1:=aaN.mp h.1
 haveI a:=of_decide_eq_true h1.1
 haveI b:=AX A _ h1.2
 haveI c:=yh B _ h.2
 unfold Fm.e at h2
 rw [c,Int.add_zero] at h2
 exact absurd h2 (Int.not_le.mpr (Int.lt_of_le_of_lt (Int.add_le_add_left b _) (by rw [Int.add_zero];exact a)))
theorem Gh:∀(n c:Nat) (f:Fm),0<=f.e A B->Jn n c f=true->Im A B n c
 | 0,c,f,h,h2=>Classical.byContradiction λg=>GX A B _ h2 (by rw [Fm.e_add];exact Int.add_nonneg h (Cn.no A B _ g))
 | n+1,c,f,h,h2=>λg=>Gh n _ _ (by rw [Fm.e_add,Fm.e_sc];exact Int.add_nonneg h (Int.mul_nonneg (Int.natCast_nonneg _) (Cn.ok A B _ g))) h2
end
theorem sA (a b:Nat):a<=a-b+b:=Nat.sub_le_iff_le_add.mp (aaL _)
noncomputable def IY (c:Nat):Bool:=Jn (c%16) (c/16) ⟨0,[],[]⟩
@[reducible] noncomputable def Imc (A:List Nat) (B:List Int) (c:Nat):Prop:=Im A B (c%16) (c/16)
theorem JH (c:Nat) (A:List Nat) (B:List Int) (h:IY c=true):Imc A B c:=Gh A B _ _ _ (Int.le_of_eq (Fm.e_k A B 0).symm) h
theorem aG (c:Nat) (A:List Nat) (h:IY c=true):Imc A [] c:=JH c A [] h
@[reducible] noncomputable def Imd (A:List Nat) (B:List Int) (c:Nat):Prop:=bI (IY c) (Imc A B c) True
theorem fi (A:List Nat) (B:List Int) (c:Nat):Imd A B c:=by
 unfold Imd
 cases h:IY c with
 | true=>exact JH c A B h
 | false=>trivial
theorem bO (c:Nat) {a:Nat}:Imd [a] [] c:=fi _ _ c
theorem bP (c:Nat) {a b:Nat}:Imd [a,b] [] c:=fi _ _ c
theorem lZ (c:Nat) {a b d:Nat}:Imd [a,b,d] [] c:=fi _ _ c
theorem vd (c:Nat) {a b d e:Nat}:Imd [a,b,d,e] [] c:=fi _ _ c
theorem yU (c:Nat) {a b d e f:Nat}:Imd [a,b,d,e,f] [] c:=fi _ _ c
theorem cI (c:Nat) {x:Int}:Imd [] [x] c:=fi _ _ c
theorem qw (c:Nat) {x y:Int}:Imd [] [x,y] c:=fi _ _ c
theorem EY (c:Nat) {x y z:Int}:Imd [] [x,y,z] c:=fi _ _ c
theorem Hi (c:Nat) {x y z w:Int}:Imd [] [x,y,z,w] c:=fi _ _ c
theorem dE (c:Nat) {a:Nat} {x:Int}:Imd [a] [x] c:=fi _ _ c
theorem kK (c:Nat) {a b:Nat} {x:Int}:Imd [a,b] [x] c:=fi _ _ c
theorem Ck (c:Nat) {a:Nat} {x y:Int}:Imd [a] [x,y] c:=fi _ _ c
theorem bS {P:Prop} (h:∀X:Prop,(P->X)->X):P:=h P id
open PySem PySem.W PyProof.Rows
inductive V where
 | none:V
 | bool (b:Bool):V
 | int (i:Int):V
 | str (s:String):V
 | tup (xs:List V):V
 | ref (i:Nat):V
 | inst (c:String) (i:Nat):V
 | exc (c:String):V
 | scr:V
inductive O where
 | list (xs:List V)
 | dict (es:List (Int×V))
 | flds (fs:List (String×V))
abbrev Hp:=List O
abbrev bk:=String->Option V
noncomputable def upd (l:bk) (x:String) (v:V):bk:=λy=>if y=x then some v else l y
structure S where
 l:bk
 H:Hp
inductive sM (σ α:Type) where
 | ok (a:α) (s:σ)
 | exc (c:String) (s:σ)
 | stuck
abbrev Cm (α:Type):=S->sM S α
noncomputable def Cm.b {α β:Type} (m:Cm α) (f:α->Cm β):Cm β:=λs=>match m s with
 | .ok a s'=>f a s'
 | .exc c s'=> .exc c s'
 | .stuck=> .stuck
noncomputable def Cm.p {α:Type} (a:α):Cm α:=λs=> .ok a s
noncomputable def Cm.stk {α:Type}:Cm α:=λ_=> .stuck
abbrev Fc:=List V->Hp->sM Hp V
inductive Fl where
 | next
 | ret (v:V)
structure Cx where
 prog:Program
 w:World
 K:Frag
 hB:Heap
 os:OsState
 mg:Str->Option Value
 mb:Str->Option Value
 cls:String->Option Addr
 xcl:String->Option Addr
 sa:Addr
 sv:List Value
 sn:List Int
abbrev Cx.M (G:Cx):Model:=model G.prog G.w
structure bF (G:Cx):Prop where
 X:G.K.In G.hB
 g:G.hB.Ns mainGlobals G.mg
 b:G.hB.Ns builtinsNs G.mb
 bt:∀x:Str,x ≠ "__name__" -> G.mb x=bootBuiltins x
 lim:G.hB.NoLimit
 seer:G.hB.NoSeer
 tree:G.prog.given.tree=none
 scr:G.hB.IsList G.sa G.sv.toArray
 isInts:IntsAre G.sv G.sn
 short:G.sn.length<=63
noncomputable def kP:List Stmt:=PySem.Challenge.pw_uf060003_08.main.body
noncomputable def kF (i:Nat):Stmt:=kP.getD i (.Pass ⟨0,0,0,0⟩)
noncomputable def kM (i j:Nat):Stmt:=match kF i with | .ClassDef _ _ _ b _ _ _ _ _ _ _=>b.getD j (.Pass ⟨0,0,0,0⟩) | s=>s
noncomputable def kA:Stmt->Arguments | .FunctionDef _ a _ _ _ _ _ _ _ _=>a | _=>⟨[],[],none,[],[],none,[]⟩
noncomputable def kB:Stmt->List Stmt | .FunctionDef _ _ b _ _ _ _ _ _ _=>b | _=>[]
noncomputable def kC:Stmt->Scope | .FunctionDef _ _ _ _ _ _ s _ _ _=>s | _=>default
noncomputable def kS (x:String) (t:Nat):Value:= .str (Str.ofString x) t
noncomputable def kE (P:Params) (x:String) (t:Nat) (v:Value):DictEntry:=⟨PyData.keyHash P (Str.ofString x),.str (Str.ofString x) t,v⟩
noncomputable def kO (r:Nat) (x y:String) (t n a l k:Nat):Addr×Obj:=(r+5,⟨(.type "code"),none,.fields #[(kS x t),(kS y (t+1)),(kS "/claim/cut.py" (t+2)),(.int n 0),(.int a 0),(.int 0 0),(.int 0 0),(.int l 0),(.ref r),(.bool true),(.int 181 0),(.ref (r+1)),.none,(.ref (r+2)),(.ref (r+3)),(.ref (r+4)),(.int k 0),(.int n 0),(kS "/claim/cut.py" (k+1))],#[]⟩)
noncomputable def kU (a:Nat) (x y:String) (b:Stmt) (v:Value):Addr×Obj:=(a,⟨(.type "function"),none,.func ⟨(Str.ofString x),(Str.ofString y),(kA b),(.stmts (kB b)),(kC b),3,[],.none,.none,.none,v,none,(.ref (a-1)),.none,0⟩,#[]⟩)
noncomputable def K0 (P:Params):Frag:=[
 (2,⟨.none,none,.dict #[] 0,#[]⟩),
 (3,⟨(.type "dict"),none,.dict #[(kE P "__name__" 165 (kS "law_uf060003_08" 640)),(kE P "__doc__" 166 .none),(kE P "__package__" 167 .none),(kE P "__loader__" 168 (.builtin "__main__.__loader__#opaque")),(kE P "__spec__" 169 .none),(kE P "__annotations__" 170 (.ref 6)),(kE P "__builtins__" 171 (.ref 4)),(kE P "__file__" 173 (kS "/claim/cut.py" 172)),(kE P "__cached__" 174 .none),(kE P "RoomError" 206 (.ref 24)),(kE P "BadPlan" 222 (.ref 37)),(kE P "BadWish" 238 (.ref 49)),(kE P "TooLarge" 254 (.ref 61)),(kE P "NoSize" 270 (.ref 73)),(kE P "NoRoom" 286 (.ref 85)),(kE P "NotOut" 302 (.ref 97)),(kE P "OutOfThing" 318 (.ref 109)),(kE P "Shelf" 395 (.ref 164)),(kE P "Room" 563 (.ref 286)),(kE P "MOST_PAGES" 567 (.int 40 566)),(kE P "MOST_LENGTH" 569 (.int 60 568)),(kE P "MOST_SIZES" 571 (.int 8 570)),(kE P "whole" 578 (.ref 297)),(kE P "between" 587 (.ref 304)),(kE P "Plan" 639 (.ref 335)),(kE P "_law_cell_at" 649 (.ref 346)),(kE P "_law_whole" 656 (.ref 353)),(kE P "_law_sizes_by" 670 (.ref 360)),(kE P "_law_plan_by" 681 (.ref 367)),(kE P "_law_size_by" 690 (.ref 374)),(kE P "_law_pairs" 698 (.ref 381)),(kE P "_law_got" 711 (.ref 388)),(kE P "_law_moved" 722 (.ref 395)),(kE P "_law_is_refused" 732 (.ref 402)),(kE P "_law_touched" 747 (.ref 409)),(kE P "_law_room_asked" 756 (.ref 416)),(kE P "_law_deed" 769 (.ref 423)),(kE P "_law_held" 780 (.ref 430)),(kE P "law" 794 (.ref 437))] 39,#[]⟩),
 (23,⟨(.type "dict"),none,.dict #[(kE P "__module__" 196 (kS "slabroom.errors" 187)),(kE P "__firstlineno__" 200 (.int 2 199)),(kE P "__static_attributes__" 201 (.ref 22)),(kE P "__weakref__" 203 (.ref 25)),(kE P "__doc__" 204 .none)] 3,#[]⟩),
 (24,⟨(.type "type"),none,.cls ⟨(Str.ofString "RoomError"),[(.type "ValueError")],[(.ref 24),(.type "ValueError"),(.type "Exception"),(.type "BaseException"),(.type "object")],23,(Str.ofString "RoomError"),true,[],[(.ref 37),(.ref 49),(.ref 61),(.ref 73),(.ref 85),(.ref 97),(.ref 109)],false,none,false⟩,#[(some (.ref 15)),none,(some (kS "RoomError" 189)),(some (kS "RoomError" 197)),(some (.builtin "ValueError.__new__")),(some (.bool true))]⟩),
 (36,⟨(.type "dict"),none,.dict #[(kE P "__module__" 214 (kS "slabroom.errors" 187)),(kE P "__firstlineno__" 218 (.int 4 217)),(kE P "__static_attributes__" 219 (.ref 35)),(kE P "__doc__" 220 .none)] 2,#[]⟩),
 (37,⟨(.type "type"),none,.cls ⟨(Str.ofString "BadPlan"),[(.ref 24)],[(.ref 37),(.ref 24),(.type "ValueError"),(.type "Exception"),(.type "BaseException"),(.type "object")],36,(Str.ofString "BadPlan"),true,[],[],false,none,false⟩,#[(some (.ref 28)),none,(some (kS "BadPlan" 207)),(some (kS "BadPlan" 215)),(some (.builtin "ValueError.__new__")),(some (.bool true))]⟩),
 (48,⟨(.type "dict"),none,.dict #[(kE P "__module__" 230 (kS "slabroom.errors" 187)),(kE P "__firstlineno__" 234 (.int 6 233)),(kE P "__static_attributes__" 235 (.ref 47)),(kE P "__doc__" 236 .none)] 2,#[]⟩),
 (49,⟨(.type "type"),none,.cls ⟨(Str.ofString "BadWish"),[(.ref 24)],[(.ref 49),(.ref 24),(.type "ValueError"),(.type "Exception"),(.type "BaseException"),(.type "object")],48,(Str.ofString "BadWish"),true,[],[],false,none,false⟩,#[(some (.ref 40)),none,(some (kS "BadWish" 223)),(some (kS "BadWish" 231)),(some (.builtin "ValueError.__new__")),(some (.bool true))]⟩),
 (60,⟨(.type "dict"),none,.dict #[(kE P "__module__" 246 (kS "slabroom.errors" 187)),(kE P "__firstlineno__" 250 (.int 8 249)),(kE P "__static_attributes__" 251 (.ref 59)),(kE P "__doc__" 252 .none)] 2,#[]⟩),
 (61,⟨(.type "type"),none,.cls ⟨(Str.ofString "TooLarge"),[(.ref 24)],[(.ref 61),(.ref 24),(.type "ValueError"),(.type "Exception"),(.type "BaseException"),(.type "object")],60,(Str.ofString "TooLarge"),true,[],[],false,none,false⟩,#[(some (.ref 52)),none,(some (kS "TooLarge" 239)),(some (kS "TooLarge" 247)),(some (.builtin "ValueError.__new__")),(some (.bool true))]⟩),
 (72,⟨(.type "dict"),none,.dict #[(kE P "__module__" 262 (kS "slabroom.errors" 187)),(kE P "__firstlineno__" 266 (.int 10 265)),(kE P "__static_attributes__" 267 (.ref 71)),(kE P "__doc__" 268 .none)] 2,#[]⟩),
 (73,⟨(.type "type"),none,.cls ⟨(Str.ofString "NoSize"),[(.ref 24)],[(.ref 73),(.ref 24),(.type "ValueError"),(.type "Exception"),(.type "BaseException"),(.type "object")],72,(Str.ofString "NoSize"),true,[],[],false,none,false⟩,#[(some (.ref 64)),none,(some (kS "NoSize" 255)),(some (kS "NoSize" 263)),(some (.builtin "ValueError.__new__")),(some (.bool true))]⟩),
 (84,⟨(.type "dict"),none,.dict #[(kE P "__module__" 278 (kS "slabroom.errors" 187)),(kE P "__firstlineno__" 282 (.int 12 281)),(kE P "__static_attributes__" 283 (.ref 83)),(kE P "__doc__" 284 .none)] 2,#[]⟩),
 (85,⟨(.type "type"),none,.cls ⟨(Str.ofString "NoRoom"),[(.ref 24)],[(.ref 85),(.ref 24),(.type "ValueError"),(.type "Exception"),(.type "BaseException"),(.type "object")],84,(Str.ofString "NoRoom"),true,[],[],false,none,false⟩,#[(some (.ref 76)),none,(some (kS "NoRoom" 271)),(some (kS "NoRoom" 279)),(some (.builtin "ValueError.__new__")),(some (.bool true))]⟩),
 (96,⟨(.type "dict"),none,.dict #[(kE P "__module__" 294 (kS "slabroom.errors" 187)),(kE P "__firstlineno__" 298 (.int 14 297)),(kE P "__static_attributes__" 299 (.ref 95)),(kE P "__doc__" 300 .none)] 2,#[]⟩),
 (97,⟨(.type "type"),none,.cls ⟨(Str.ofString "NotOut"),[(.ref 24)],[(.ref 97),(.ref 24),(.type "ValueError"),(.type "Exception"),(.type "BaseException"),(.type "object")],96,(Str.ofString "NotOut"),true,[],[],false,none,false⟩,#[(some (.ref 88)),none,(some (kS "NotOut" 287)),(some (kS "NotOut" 295)),(some (.builtin "ValueError.__new__")),(some (.bool true))]⟩),
 (108,⟨(.type "dict"),none,.dict #[(kE P "__module__" 310 (kS "slabroom.errors" 187)),(kE P "__firstlineno__" 314 (.int 16 313)),(kE P "__static_attributes__" 315 (.ref 107)),(kE P "__doc__" 316 .none)] 2,#[]⟩),
 (109,⟨(.type "type"),none,.cls ⟨(Str.ofString "OutOfThing"),[(.ref 24)],[(.ref 109),(.ref 24),(.type "ValueError"),(.type "Exception"),(.type "BaseException"),(.type "object")],108,(Str.ofString "OutOfThing"),true,[],[],false,none,false⟩,#[(some (.ref 100)),none,(some (kS "OutOfThing" 303)),(some (kS "OutOfThing" 311)),(some (.builtin "ValueError.__new__")),(some (.bool true))]⟩),
 kO 119 "__init__" "Shelf.__init__" 333 21 4 3 340,
 kU 125 "__init__" "Shelf.__init__" (kM 10 0) (kS "slabroom.shelf" 319),
 (129,⟨(.type "code"),none,.fields #[(kS "out" 343),(kS "Shelf.out" 344),(kS "/claim/cut.py" 345),(.int 26 0),(.int 1 0),(.int 0 0),(.int 0 0),(.int 3 0),(.ref 126),(.bool true),(.int 181 0),(.ref 127),.none,.none,.none,(.ref 128),(.int 346 0),(.int 26 0),(kS "/claim/cut.py" 347)],#[]⟩),
 kU 130 "out" "Shelf.out" (kM 10 1) (kS "slabroom.shelf" 319),
 (134,⟨(.type "code"),none,.fields #[(kS "free" 349),(kS "Shelf.free" 350),(kS "/claim/cut.py" 351),(.int 29 0),(.int 1 0),(.int 0 0),(.int 0 0),(.int 3 0),(.ref 131),(.bool true),(.int 181 0),(.ref 132),.none,.none,.none,(.ref 133),(.int 352 0),(.int 29 0),(kS "/claim/cut.py" 353)],#[]⟩),
 (135,⟨(.type "function"),none,.func ⟨(Str.ofString "free"),(Str.ofString "Shelf.free"),(kA (kM 10 2)),(.stmts (kB (kM 10 2))),(kC (kM 10 3)),3,[],.none,.none,.none,(kS "slabroom.shelf" 319),none,(.ref 134),.none,0⟩,#[]⟩),
 (139,⟨(.type "code"),none,.fields #[(kS "gone" 355),(kS "Shelf.gone" 356),(kS "/claim/cut.py" 357),(.int 32 0),(.int 1 0),(.int 0 0),(.int 0 0),(.int 3 0),(.ref 136),(.bool true),(.int 181 0),(.ref 137),.none,.none,.none,(.ref 138),(.int 358 0),(.int 32 0),(kS "/claim/cut.py" 359)],#[]⟩),
 kU 140 "gone" "Shelf.gone" (kM 10 3) (kS "slabroom.shelf" 319),
 kO 141 "take" "Shelf.take" 361 35 1 3 366,
 kU 147 "take" "Shelf.take" (kM 10 4) (kS "slabroom.shelf" 319),
 kO 148 "has" "Shelf.has" 369 42 2 3 374,
 kU 154 "has" "Shelf.has" (kM 10 5) (kS "slabroom.shelf" 319),
 kO 155 "give" "Shelf.give" 377 45 2 3 382,
 kU 161 "give" "Shelf.give" (kM 10 6) (kS "slabroom.shelf" 319),
 (163,⟨(.type "dict"),none,.dict #[(kE P "__module__" 328 (kS "slabroom.shelf" 319)),(kE P "__firstlineno__" 332 (.int 19 331)),(kE P "__init__" 342 (.ref 125)),(kE P "out" 348 (.ref 130)),(kE P "free" 354 (.ref 135)),(kE P "gone" 360 (.ref 140)),(kE P "take" 368 (.ref 147)),(kE P "has" 376 (.ref 154)),(kE P "give" 384 (.ref 161)),(kE P "__static_attributes__" 388 (.ref 162)),(kE P "__dict__" 390 (.ref 165)),(kE P "__weakref__" 392 (.ref 166)),(kE P "__doc__" 393 .none)] 4,#[]⟩),
 (164,⟨(.type "type"),none,.cls ⟨(Str.ofString "Shelf"),[(.type "object")],[(.ref 164),(.type "object")],163,(Str.ofString "Shelf"),true,[],[],false,none,false⟩,#[none,none,(some (kS "Shelf" 321)),(some (kS "Shelf" 329)),(some (.builtin "object.__new__")),(some (.bool true))]⟩),
 kO 176 "__init__" "Room.__init__" 410 52 2 3 415,
 kU 182 "__init__" "Room.__init__" (kM 12 0) (kS "slabroom.room" 396),
 (186,⟨(.type "code"),none,.fields #[(kS "pile" 418),(kS "Room.pile" 419),(kS "/claim/cut.py" 420),(.int 57 0),(.int 1 0),(.int 0 0),(.int 0 0),(.int 3 0),(.ref 183),(.bool true),(.int 181 0),(.ref 184),.none,.none,.none,(.ref 185),(.int 421 0),(.int 57 0),(kS "/claim/cut.py" 422)],#[]⟩),
 kU 187 "pile" "Room.pile" (kM 12 1) (kS "slabroom.room" 396),
 (191,⟨(.type "code"),none,.fields #[(kS "empty_pages" 424),(kS "Room.empty_pages" 425),(kS "/claim/cut.py" 426),(.int 60 0),(.int 1 0),(.int 0 0),(.int 0 0),(.int 3 0),(.ref 188),(.bool true),(.int 181 0),(.ref 189),.none,.none,.none,(.ref 190),(.int 427 0),(.int 60 0),(kS "/claim/cut.py" 428)],#[]⟩),
 (192,⟨(.type "function"),none,.func ⟨(Str.ofString "empty_pages"),(Str.ofString "Room.empty_pages"),(kA (kM 12 2)),(.stmts (kB (kM 12 2))),(kC (kM 12 17)),3,[],.none,.none,.none,(kS "slabroom.room" 396),none,(.ref 191),.none,0⟩,#[]⟩),
 (196,⟨(.type "code"),none,.fields #[(kS "of_size" 430),(kS "Room.of_size" 431),(kS "/claim/cut.py" 432),(.int 63 0),(.int 2 0),(.int 0 0),(.int 0 0),(.int 3 0),(.ref 193),(.bool true),(.int 181 0),(.ref 194),.none,.none,.none,(.ref 195),(.int 433 0),(.int 63 0),(kS "/claim/cut.py" 434)],#[]⟩),
 kU 197 "of_size" "Room.of_size" (kM 12 3) (kS "slabroom.room" 396),
 kO 198 "begin" "Room.begin" 436 66 3 3 442,
 kU 204 "begin" "Room.begin" (kM 12 4) (kS "slabroom.room" 396),
 kO 205 "found" "Room.found" 445 69 2 3 453,
 kU 211 "found" "Room.found" (kM 12 5) (kS "slabroom.room" 396),
 kO 212 "fresh" "Room.fresh" 456 79 2 3 462,
 kU 218 "fresh" "Room.fresh" (kM 12 6) (kS "slabroom.room" 396),
 kO 219 "wish" "Room.wish" 465 88 2 3 476,
 kU 225 "wish" "Room.wish" (kM 12 7) (kS "slabroom.room" 396),
 (229,⟨(.type "code"),none,.fields #[(kS "give_back" 479),(kS "Room.give_back" 480),(kS "/claim/cut.py" 481),(.int 102 0),(.int 2 0),(.int 0 0),(.int 0 0),(.int 3 0),(.ref 226),(.bool true),(.int 181 0),(.ref 227),.none,.none,.none,(.ref 228),(.int 482 0),(.int 102 0),(kS "/claim/cut.py" 483)],#[]⟩),
 kU 230 "give_back" "Room.give_back" (kM 12 8) (kS "slabroom.room" 396),
 kO 231 "trim" "Room.trim" 485 110 1 3 491,
 kU 237 "trim" "Room.trim" (kM 12 9) (kS "slabroom.room" 396),
 (241,⟨(.type "code"),none,.fields #[(kS "room_for" 494),(kS "Room.room_for" 495),(kS "/claim/cut.py" 496),(.int 116 0),(.int 2 0),(.int 0 0),(.int 0 0),(.int 3 0),(.ref 238),(.bool true),(.int 181 0),(.ref 239),.none,.none,.none,(.ref 240),(.int 497 0),(.int 116 0),(kS "/claim/cut.py" 498)],#[]⟩),
 kU 242 "room_for" "Room.room_for" (kM 12 10) (kS "slabroom.room" 396),
 kO 243 "cell" "Room.cell" 500 122 3 3 507,
 kU 249 "cell" "Room.cell" (kM 12 11) (kS "slabroom.room" 396),
 kO 250 "read" "Room.read" 510 128 3 3 516,
 kU 256 "read" "Room.read" (kM 12 12) (kS "slabroom.room" 396),
 kO 257 "write" "Room.write" 519 131 4 3 526,
 kU 263 "write" "Room.write" (kM 12 13) (kS "slabroom.room" 396),
 (267,⟨(.type "code"),none,.fields #[(kS "gather" 529),(kS "Room.gather" 530),(kS "/claim/cut.py" 531),(.int 134 0),(.int 2 0),(.int 0 0),(.int 0 0),(.int 3 0),(.ref 264),(.bool true),(.int 181 0),(.ref 265),.none,.none,.none,(.ref 266),(.int 532 0),(.int 134 0),(kS "/claim/cut.py" 533)],#[]⟩),
 kU 268 "gather" "Room.gather" (kM 12 14) (kS "slabroom.room" 396),
 (272,⟨(.type "code"),none,.fields #[(kS "moved" 535),(kS "Room.moved" 536),(kS "/claim/cut.py" 537),(.int 150 0),(.int 4 0),(.int 0 0),(.int 0 0),(.int 3 0),(.ref 269),(.bool true),(.int 181 0),(.ref 270),.none,.none,.none,(.ref 271),(.int 538 0),(.int 150 0),(kS "/claim/cut.py" 539)],#[]⟩),
 kU 273 "moved" "Room.moved" (kM 12 15) (kS "slabroom.room" 396),
 (277,⟨(.type "code"),none,.fields #[(kS "things" 541),(kS "Room.things" 542),(kS "/claim/cut.py" 543),(.int 157 0),(.int 1 0),(.int 0 0),(.int 0 0),(.int 3 0),(.ref 274),(.bool true),(.int 181 0),(.ref 275),.none,.none,.none,(.ref 276),(.int 544 0),(.int 157 0),(kS "/claim/cut.py" 545)],#[]⟩),
 kU 278 "things" "Room.things" (kM 12 16) (kS "slabroom.room" 396),
 (282,⟨(.type "code"),none,.fields #[(kS "shelves" 547),(kS "Room.shelves" 548),(kS "/claim/cut.py" 549),(.int 164 0),(.int 1 0),(.int 0 0),(.int 0 0),(.int 3 0),(.ref 279),(.bool true),(.int 181 0),(.ref 280),.none,.none,.none,(.ref 281),(.int 550 0),(.int 164 0),(kS "/claim/cut.py" 551)],#[]⟩),
 kU 283 "shelves" "Room.shelves" (kM 12 17) (kS "slabroom.room" 396),
 (285,⟨(.type "dict"),none,.dict #[(kE P "__module__" 405 (kS "slabroom.room" 396)),(kE P "__firstlineno__" 409 (.int 50 408)),(kE P "__init__" 417 (.ref 182)),(kE P "pile" 423 (.ref 187)),(kE P "empty_pages" 429 (.ref 192)),(kE P "of_size" 435 (.ref 197)),(kE P "begin" 444 (.ref 204)),(kE P "found" 455 (.ref 211)),(kE P "fresh" 464 (.ref 218)),(kE P "wish" 478 (.ref 225)),(kE P "give_back" 484 (.ref 230)),(kE P "trim" 493 (.ref 237)),(kE P "room_for" 499 (.ref 242)),(kE P "cell" 509 (.ref 249)),(kE P "read" 518 (.ref 256)),(kE P "write" 528 (.ref 263)),(kE P "gather" 534 (.ref 268)),(kE P "moved" 540 (.ref 273)),(kE P "things" 546 (.ref 278)),(kE P "shelves" 552 (.ref 283)),(kE P "__static_attributes__" 556 (.ref 284)),(kE P "__dict__" 558 (.ref 287)),(kE P "__weakref__" 560 (.ref 288)),(kE P "__doc__" 561 .none)] 4,#[]⟩),
 (286,⟨(.type "type"),none,.cls ⟨(Str.ofString "Room"),[(.type "object")],[(.ref 286),(.type "object")],285,(Str.ofString "Room"),true,[],[],false,none,false⟩,#[none,none,(some (kS "Room" 398)),(some (kS "Room" 406)),(some (.builtin "object.__new__")),(some (.bool true))]⟩),
 kO 291 "whole" "whole" 572 170 1 3 576,
 kU 297 "whole" "whole" (kF 17) (kS "slabroom.plans" 564),
 kO 298 "between" "between" 579 172 3 3 585,
 kU 304 "between" "between" (kF 18) (kS "slabroom.plans" 564),
 kO 312 "__init__" "Plan.__init__" 600 176 4 3 609,
 kU 318 "__init__" "Plan.__init__" (kM 19 0) (kS "slabroom.plans" 564),
 kO 319 "size_for" "Plan.size_for" 612 190 2 3 618,
 kU 325 "size_for" "Plan.size_for" (kM 19 1) (kS "slabroom.plans" 564),
 kO 326 "per" "Plan.per" 621 198 2 3 626,
 kU 332 "per" "Plan.per" (kM 19 2) (kS "slabroom.plans" 564),
 (334,⟨(.type "dict"),none,.dict #[(kE P "__module__" 595 (kS "slabroom.plans" 564)),(kE P "__firstlineno__" 599 (.int 174 598)),(kE P "__init__" 611 (.ref 318)),(kE P "size_for" 620 (.ref 325)),(kE P "per" 628 (.ref 332)),(kE P "__static_attributes__" 632 (.ref 333)),(kE P "__dict__" 634 (.ref 336)),(kE P "__weakref__" 636 (.ref 337)),(kE P "__doc__" 637 .none)] 4,#[]⟩),
 (335,⟨(.type "type"),none,.cls ⟨(Str.ofString "Plan"),[(.type "object")],[(.ref 335),(.type "object")],334,(Str.ofString "Plan"),true,[],[],false,none,false⟩,#[none,none,(some (kS "Plan" 588)),(some (kS "Plan" 596)),(some (.builtin "object.__new__")),(some (.bool true))]⟩),
 kO 340 "_law_cell_at" "_law_cell_at" 642 203 2 3 647,
 kU 346 "_law_cell_at" "_law_cell_at" (kF 21) (kS "law_uf060003_08" 640),
 kO 347 "_law_whole" "_law_whole" 650 209 1 3 654,
 kU 353 "_law_whole" "_law_whole" (kF 22) (kS "law_uf060003_08" 640),
 kO 354 "_law_sizes_by" "_law_sizes_by" 657 211 3 3 668,
 kU 360 "_law_sizes_by" "_law_sizes_by" (kF 23) (kS "law_uf060003_08" 640),
 kO 361 "_law_plan_by" "_law_plan_by" 671 226 1 3 679,
 kU 367 "_law_plan_by" "_law_plan_by" (kF 24) (kS "law_uf060003_08" 640),
 kO 368 "_law_size_by" "_law_size_by" 682 241 2 3 688,
 kU 374 "_law_size_by" "_law_size_by" (kF 25) (kS "law_uf060003_08" 640),
 kO 375 "_law_pairs" "_law_pairs" 691 246 1 3 696,
 kU 381 "_law_pairs" "_law_pairs" (kF 26) (kS "law_uf060003_08" 640),
 kO 382 "_law_got" "_law_got" 699 255 5 3 709,
 kU 388 "_law_got" "_law_got" (kF 27) (kS "law_uf060003_08" 640),
 kO 389 "_law_moved" "_law_moved" 712 270 3 3 720,
 kU 395 "_law_moved" "_law_moved" (kF 28) (kS "law_uf060003_08" 640),
 kO 396 "_law_is_refused" "_law_is_refused" 723 279 4 3 730,
 kU 402 "_law_is_refused" "_law_is_refused" (kF 29) (kS "law_uf060003_08" 640),
 kO 403 "_law_touched" "_law_touched" 733 285 3 3 745,
 kU 409 "_law_touched" "_law_touched" (kF 30) (kS "law_uf060003_08" 640),
 kO 410 "_law_room_asked" "_law_room_asked" 748 303 3 3 754,
 kU 416 "_law_room_asked" "_law_room_asked" (kF 31) (kS "law_uf060003_08" 640),
 kO 417 "_law_deed" "_law_deed" 757 308 4 3 767,
 kU 423 "_law_deed" "_law_deed" (kF 32) (kS "law_uf060003_08" 640),
 kO 424 "_law_held" "_law_held" 770 325 2 3 778,
 kU 430 "_law_held" "_law_held" (kF 33) (kS "law_uf060003_08" 640),
 kO 431 "law" "law" 781 332 1 3 792,
 kU 437 "law" "law" (kF 34) (kS "law_uf060003_08" 640)]
noncomputable def kg:List (String×Addr):=[("Shelf",164),("Room",286),("Plan",335)]
noncomputable def Js:List (String×Addr):=[("RoomError",24),("BadPlan",37),("BadWish",49),("TooLarge",61),("NoSize",73),("NoRoom",85),("NotOut",97),("OutOfThing",109)]
noncomputable def Gx (w:World) (hB:Heap) (os:OsState) (mg mb:Str->Option Value) (sa:Addr) (sv:List Value) (sn:List Int):Cx:={ prog:=PySem.Challenge.rw_uf060003_08.row.prog,w:=w,K:=K0 w.params,hB:=hB,os:=os,mg:=mg,mb:=mb,cls:=λc=>kg.lookup c,xcl:=λc=>Js.lookup c,sa:=sa,sv:=sv,sn:=sn }
def wJ (f:Addr) (G:Cx):Prop:= ∀(s₁:Shared) (R:Result->Shared->Prop),G.hB=s₁.heap->s₁.os=G.os->s₁.gens = #[] ->
 (∀s',(∀b o,s₁.heap.get? b=some o->s'.heap.get? b=some o)->s'.os=s₁.os->s'.gens = #[]->R (.ok (.ret (.bool true))) s')->codeAny G.M callerA (.call (.ref f) ⟨[.ref G.sa],[]⟩) R s₁
structure Tp where
 w:World
 hB:Heap
 os:OsState
 mg:Str->Option Value
 mb:Str->Option Value
 sa:Addr
 sv:List Value
 sn:List Int
noncomputable def Tp.G (t:Tp):Cx:=Gx t.w t.hB t.os t.mg t.mb t.sa t.sv t.sn
def Tp.Bad (t:Tp):Prop:=bF t.G/\ ¬wJ 437 t.G
noncomputable def tp:Tp:= @Classical.epsilon Tp ⟨⟨aWorld 0,default,default,λ_=>none,λ_=>none,0,[],[]⟩⟩ Tp.Bad
noncomputable def G:Cx:=tp.G
noncomputable abbrev sn:List Int:=G.sn
theorem gZ (h:bF G->wJ 437 G) (t:Tp) (c:bF t.G):wJ 437 t.G:=Classical.byContradiction λn =>
 have b:= @Classical.epsilon_spec Tp Tp.Bad ⟨t,c,n⟩
 b.2 (h b.1)
structure GN (lt:Keyed->Keyed->Bool):Prop where
 asym:∀ {x y},lt x y=true->lt y x=false
 ntr:∀ {x y z},lt x y=false->lt y z=false->lt x z=false
structure qg (M:Model) (A:Around) (E:Value->Shared->Prop) (s:Shared) (lt:Keyed->Keyed->Bool) (ok:Keyed->Prop) (κ:SortKind):Prop where
 lin:GN lt
 ask:∀ {x y:Keyed} {st:SortSt} {Q:Option Bool->SortSt->Prop},ok x->ok y->kindOf st=κ->Q (some (lt x y)) st->wpS M A E s (lt' x y) Q st
def Le (lt:Keyed->Keyed->Bool) (x y:Keyed):Prop:=lt y x=false
def qf (lt:Keyed->Keyed->Bool) (w c:List Keyed):Prop:=c.Pairwise (Le lt)/\c.Perm w
structure TT where
 A:Around
 E:Value->Shared->Prop
 s:Shared
 lt:Keyed->Keyed->Bool
 ok:Keyed->Prop
 κ:SortKind
def TT.Goal (t:TT):Prop:=qg G.M t.A t.E t.s t.lt t.ok t.κ-> ∀W:List Keyed,(∀x∈W,t.ok x)-> ∀st:SortSt,kindOf st=t.κ->failedOf st=none->pendingOf st = #[]->(arrOf st).toList=W-> ∀Q:Unit->SortSt->Prop,
 (∀c st',failedOf st'=none->(arrOf st').toList=c->qf t.lt W c->Q () st')->wpS G.M t.A t.E t.s sortRuns' Q st
noncomputable def tt:TT:= @Classical.epsilon TT ⟨⟨callerA,λ_ _=>True,({}:Shared),λ_ _=>true,λ_=>True,tuples' true⟩⟩ λt=> ¬t.Goal
noncomputable def Tq.A:Around:=tt.A
noncomputable def Tq.E:Value->Shared->Prop:=tt.E
noncomputable def Tq.s:Shared:=tt.s
noncomputable def Tq.lt:Keyed->Keyed->Bool:=tt.lt
noncomputable def Tq.ok:Keyed->Prop:=tt.ok
noncomputable def Tq.κ:SortKind:=tt.κ
noncomputable abbrev Tq.prog:Program:=G.prog
noncomputable abbrev Tq.w:World:=G.w
noncomputable abbrev Tq.M:Model:=G.M
section
open Mine.Lake.Tq
set_option linter.unusedVariables false
open PySem PyProof.Rows
theorem Jh {lo hi:Nat} (h:¬lo>=hi):lo<=lo+(hi-lo)/2/\lo+(hi-lo)/2<hi :=
 have h:=Nat.lt_of_not_le h
 ⟨aaK _ _,Nat.lt_of_lt_of_eq (Nat.add_lt_add_left (Nat.div_lt_self (Nat.sub_pos_of_lt h) ∅) lo) (Nat.add_sub_cancel' (Nat.le_of_lt h))⟩
theorem Jg {h la ofs:Nat} (a:la<ofs) (b:la<=h):h+1-min ofs (h+1)<=h-la :=
 aam (Nat.sub_le_sub_left (Nat.le_min.mpr ⟨a,Nat.succ_le_succ b⟩) (h+1)) (Nat.le_of_eq (Nat.add_sub_add_right h 1 la))
noncomputable def eW:Bool->Keyed->Array Keyed->Nat->Nat->Nat->StateT SortSt Sem (Option Nat):=sortPriv% PySem.Builtin.gallop
noncomputable def fx (left:Bool) (key:Keyed) (arr:Array Keyed) (base i:Nat):StateT SortSt Sem (Option Bool):=do
 let x <- elem' arr (base+i)
 if left then lt' x key else return (<- lt' key x).map (!·)
theorem zW (left:Bool) (key:Keyed) (arr:Array Keyed) (base n hint:Nat):eW left key arr base n hint=(do
 let mut lastofs:=0
 let mut ofs:=1
 let mut lo:=0
 let mut hi:=0
 let some right <- fx left key arr base hint | return none
 if right then
  let maxofs:=n-hint
  for _ in [0:n] do
   if ofs>=maxofs then break
   let some more <- fx left key arr base (hint+ofs) | return none
   if !more then break
   lastofs:=ofs
   ofs:=2*ofs+1
  lo:=hint+lastofs+1
  hi:=hint+min ofs maxofs
 else
  let maxofs:=hint+1
  for _ in [0:n] do
   if ofs>=maxofs then break
   let some found <- fx left key arr base (hint-ofs) | return none
   if found then break
   lastofs:=ofs
   ofs:=2*ofs+1
  lo:=hint+1-min ofs maxofs
  hi:=hint-lastofs
 for _ in [0:n] do
  if lo>=hi then break
  let m:=lo+(hi-lo)/2
  let some more <- fx left key arr base m | return none
  if more then lo:=m+1 else hi:=m
 return some hi):=rfl
section
noncomputable def Gd (lt:Keyed->Keyed->Bool) (left:Bool) (key x:Keyed):Bool:=if left then lt x key else !lt key x
theorem bC {arr:Array Keyed} {i:Nat} {x:Keyed} {st:SortSt} {Q:Keyed->SortSt->Prop} (h:arr[i]? = some x) (hQ:Q x st):wpS M A E s (elem' arr i) Q st:=by
 rw [elem'_eq,h];exact wpS_pure hQ
theorem AF (a:qg M A E s lt ok κ) {left:Bool} {key x:Keyed} {arr:Array Keyed} {base i:Nat} {st:SortSt} {Q:Option Bool->SortSt->Prop} (hx:arr[base+i]? = some x) (ox:ok x) (okk:ok key) (hk:kindOf st=κ) (hQ:Q (some (Gd lt left key x)) st) :
  wpS M A E s (fx left key arr base i) Q st:=by
 unfold fx
 refine wpS_bind (bC hx ?_)
 cases left with
 | true=>exact a.ask ox okk hk hQ
 | false=>exact wpS_bind (a.ask okk ox hk (wpS_pure hQ))
noncomputable def B1 (left:Bool) (key:Keyed) (arr:Array Keyed) (base n lo0 hi0:Nat):StateT SortSt Sem (Option Nat):=do
 let mut lo:=lo0
 let mut hi:=hi0
 for _ in [0:n] do
  if lo>=hi then break
  let m:=lo+(hi-lo)/2
  let some more <- fx left key arr base m | return none
  if more then lo:=m+1 else hi:=m
 return some hi
section
variable {left:Bool} {key:Keyed} {arr:Array Keyed} {base n hint:Nat} {st:SortSt} {Q:Option Nat->SortSt->Prop} {b:Nat->Bool}
 (ask:∀ {i:Nat} {Q:Option Bool->SortSt->Prop},i<n->Q (some (b i)) st->wpS M A E s (fx left key arr base i) Q st)
 (mono:∀i j,i<=j->j<n->b j=true->b i=true)
 (hQ:∀k,k<=n->(∀i,i<k->b i=true)->(∀i,k<=i->i<n->b i=false)->Q (some k) st)
include ask mono hQ
theorem xj {m:Nat} (h:b m=false):∀i,m<=i->i<n->b i=false:=λi h1 h2=>by
 cases e:b i with
 | false=>rfl
 | true=>rw [mono m i h1 h2 e] at h;cases h
theorem zA {lo hi:Nat} (h1:lo<=hi) (h2:hi<=n) (h3:∀i,i<lo->b i=true) (h4:∀i,hi<=i->i<n->b i=false):wpS M A E s (B1 left key arr base n lo hi) Q st:=by
 unfold B1
 refine wpS_bind (wpS_forRange (I:=λx c st'=>st'=st/\ ∃lo hi,c=(none,lo,hi)/\lo<=hi/\hi<=n/\hi-lo+x<=n/\(∀i,i<lo->b i=true)/\ ∀i,hi<=i->i<n->b i=false) ?step ?gZ ⟨rfl,lo,hi,rfl,h1,h2,aG 0x1092c0020110012 [_,_,_] rfl h2 (Nat.sub_le _ _),h3,h4⟩)
 case gZ =>
  rintro c st' ⟨rfl,lo,hi,rfl,h1,h2,h3,h4,h5⟩
  rw [Nat.zero_max] at h3
  obtain rfl:lo=hi:=aaf (h1) (aG 0x32030c201110c012 [_,_,_,_] rfl h3 (sA _ _))
  exact wpS_pure (hQ lo h2 h4 h5)
 case step =>
  rintro x c st' _ hx ⟨rfl,lo,hi,rfl,h1,h2,h3,h4,h5⟩
  dsimp only
  by_cases hc:lo>=hi
  ·rw [if_pos hc]
   obtain rfl:lo=hi:=aaf (h1) (hc)
   exact wpS_pure (wpS_pure (hQ lo h2 h4 h5))
  ·rw [if_neg hc]
   refine bH (lo+(hi-lo)/2) λm em=> ?_
   have hm2:=Jh hc
   rw [em] at hm2 ⊢
   refine wpS_bind (ask (lZ 0x121021110012 h2 hm2.2) ?_)
   cases hm:b m with
   | true =>
    refine wpS_pure ⟨rfl,m+1,hi,rfl,bP 0x1190c010111 hm2.2,h2,(Nat.le_total _ _).elim (λy2=>fi [_,_,_,_,_,_,_,_] [] 0x2191c6c030c7017195c6c21543c21210c014 h3 em (aaa y2) (sA _ _)) (λy2=>lZ 0x1190c2c00922110112 hx (aaZ y2)),λi hi'=>mono i m (aG 0x100191c0111 [_,_] rfl hi') (lZ 0x121021110012 h2 hm2.2) hm,h5⟩
   | false =>
    exact wpS_pure ⟨rfl,lo,m,rfl,aG 0x200210c211 [_,_,_] rfl em,lZ 0x120021110012 h2 hm2.2,fi [_,_,_,_,_,_,_] [] 0x2191c5c060c401365c214311210c014 h3 hm2.2 (aaa (lZ 0x200210c211 em)) (sA _ _),h4,xj ask mono hQ hm⟩
theorem EK (hh:hint<n) (hb:b hint=true):wpS M A E s (do
  let mut lastofs:=0
  let mut ofs:=1
  for _ in [0:n] do
   if ofs>=n-hint then break
   let some more <- fx left key arr base (hint+ofs) | return none
   if !more then break
   lastofs:=ofs
   ofs:=2*ofs+1
  B1 left key arr base n (hint+lastofs+1) (hint+min ofs (n-hint))) Q st:=by
 have go:∀la ofs,la<ofs->b (hint+la)=true->hint+la<n->(n-hint<=ofs\/(hint+ofs<n/\b (hint+ofs)=false))->wpS M A E s (B1 left key arr base n (hint+la+1) (hint+min ofs (n-hint))) Q st:=λla ofs a1 a2 a3 a4=>by
  refine zA ask mono hQ (Nat.add_le_add_left (Nat.le_min.mpr ⟨a1,vd 0x3191c003c201210c112 a3 (sA _ _)⟩) hint) (aG 0x302c0321c2110012 [_,_,_,_] rfl (Nat.min_le_right _ _) (aaa (aG 0x10010111 [_,_] rfl hh))) (λi hi=>mono i (hint+la) (aG 0x21c001921cc0111 [_,_,_] rfl hi) a3 a2) λi h1 h2=> ?_
  rcases a4 with a4 | ⟨a4,a5⟩
  ·rw [Nat.min_eq_right a4] at h1;exact absurd h2 (vd 0x32501c301210c012 h1 (sA _ _))
  ·rw [Nat.min_eq_left (by exact vd 0x31003c201210c112 a4 (sA _ _))] at h1;exact xj ask mono hQ a5 i h1 h2
 refine wpS_bind (wpS_forRange (I:=λx c st'=>st'=st/\ ∃la ofs,c=(none,la,ofs)/\la<ofs/\x+1<=ofs/\b (hint+la)=true/\hint+la<n) ?step ?gZ ⟨rfl,0,1,rfl,aG 0x190910 [] rfl,aG 0x191909c00 [] rfl,hb,hh⟩)
 case gZ =>
  rintro c st' ⟨rfl,la,ofs,rfl,h1,h2,h3,h4⟩
  rw [Nat.zero_max] at h2
  exact go la ofs h1 h3 h4 (.inl (aG 0x12002011190c012 [_,_,_] rfl h2 (Nat.sub_le _ _)))
 case step =>
  rintro x c st' _ hx ⟨rfl,la,ofs,rfl,h1,h2,h3,h4⟩
  dsimp only
  by_cases hc:ofs>=n-hint
  ·rw [if_pos hc];exact wpS_pure (go la ofs h1 h3 h4 (.inl hc))
  ·rw [if_neg hc]
   refine wpS_bind (ask (aG 0x312c1320c2110412 [_,_,_,_] rfl hc (aaa (aG 0x10010111 [_,_] rfl hh))) ?_)
   cases hm:b (hint+ofs) with
   | true=>exact wpS_pure ⟨rfl,ofs,2*ofs+1,rfl,aG 0x19002dc010 [_] rfl,aG 0x19102dc19190cc01190c011 [_,_] rfl h2,hm,aG 0x312c1320c2110412 [_,_,_,_] rfl hc (aaa (aG 0x10010111 [_,_] rfl hh))⟩
   | false=>exact wpS_pure (go la ofs h1 h3 h4 (.inr ⟨aG 0x312c1320c2110412 [_,_,_,_] rfl hc (aaa (aG 0x10010111 [_,_] rfl hh)),hm⟩))
theorem EJ (hh:hint<n) (hb:b hint=false):wpS M A E s (do
  let mut lastofs:=0
  let mut ofs:=1
  for _ in [0:n] do
   if ofs>=hint+1 then break
   let some found <- fx left key arr base (hint-ofs) | return none
   if found then break
   lastofs:=ofs
   ofs:=2*ofs+1
  B1 left key arr base n (hint+1-min ofs (hint+1)) (hint-lastofs)) Q st:=by
 have go:∀la ofs,la<ofs->b (hint-la)=false->la<=hint->(hint+1<=ofs\/(ofs<=hint/\b (hint-ofs)=true))->wpS M A E s (B1 left key arr base n (hint+1-min ofs (hint+1)) (hint-la)) Q st:=λla ofs a1 a2 a3 a4=>by
  refine zA ask mono hQ (Jg a1 a3) (aG 0x120020110112 [_,_,_] rfl hh (Nat.sub_le _ _)) (λi hi=> ?_) (xj ask mono hQ a2)
  rcases a4 with a4 | ⟨a4,a5⟩
  ·rw [Nat.min_eq_right a4,Nat.sub_self] at hi;exact absurd hi (Nat.not_lt_zero _)
  ·rw [Nat.min_eq_left (by exact bP 0x191c0010011 a4)] at hi;exact mono i (hint-ofs) (by exact yU 0x300192c41c2143c20110113 hi (sA _ _) (aaa (bP 0x191c0010011 a4))) (aG 0x121020110112 [_,_,_] rfl hh (Nat.sub_le _ _)) a5
 refine wpS_bind (wpS_forRange (I:=λx c st'=>st'=st/\ ∃la ofs,c=(none,la,ofs)/\la<ofs/\x+1<=ofs/\b (hint-la)=false/\la<=hint) ?step ?gZ ⟨rfl,0,1,rfl,aG 0x190910 [] rfl,aG 0x191909c00 [] rfl,hb,aG 0x900 [_] rfl⟩)
 case gZ =>
  rintro c st' ⟨rfl,la,ofs,rfl,h1,h2,h3,h4⟩
  rw [Nat.zero_max] at h2
  exact go la ofs h1 h3 h4 (.inl (aG 0x2190c02191c0110112 [_,_,_] rfl hh h2))
 case step =>
  rintro x c st' _ hx ⟨rfl,la,ofs,rfl,h1,h2,h3,h4⟩
  dsimp only
  by_cases hc:ofs>=hint+1
  ·rw [if_pos hc];exact wpS_pure (go la ofs h1 h3 h4 (.inl hc))
  ·rw [if_neg hc]
   refine wpS_bind (ask (aG 0x121020110112 [_,_,_] rfl hh (Nat.sub_le _ _)) ?_)
   cases hm:b (hint-ofs) with
   | true=>exact wpS_pure (go la ofs h1 h3 h4 (.inr ⟨aG 0x101190c411 [_,_] rfl hc,hm⟩))
   | false=>exact wpS_pure ⟨rfl,ofs,2*ofs+1,rfl,aG 0x19002dc010 [_] rfl,aG 0x19102dc19190cc01190c011 [_,_] rfl h2,hm,aG 0x101190c411 [_,_] rfl hc⟩
end
theorem lu (a:qg M A E s lt ok κ) {left:Bool} {key:Keyed} {arr:Array Keyed} {base n hint:Nat} {st:SortSt} {Q:Option Nat->SortSt->Prop} {f:Nat->Keyed} (hk:kindOf st=κ) (okk:ok key)
  (hf:∀i,i<n->arr[base+i]? = some (f i)/\ok (f i)) (hh:hint<n) (mono:∀i j,i<=j->j<n->Gd lt left key (f j)=true->Gd lt left key (f i)=true)
  (hQ:∀k,k<=n->(∀i,i<k->Gd lt left key (f i)=true)->(∀i,k<=i->i<n->Gd lt left key (f i)=false)->Q (some k) st) :
  wpS M A E s (eW left key arr base n hint) Q st:=by
 have ask:∀ {i:Nat} {Q:Option Bool->SortSt->Prop},i<n->Q (some (Gd lt left key (f i))) st->wpS M A E s (fx left key arr base i) Q st:=λ{i Q} hi h=>AF a (hf i hi).1 (hf i hi).2 okk hk h
 obtain ⟨b,eb⟩:∃b:Nat->Bool,(λi=>Gd lt left key (f i))=b:=⟨_,rfl⟩
 have eb':∀i,Gd lt left key (f i)=b i:=λi=>by rw [<- eb]
 simp only [eb'] at ask mono hQ
 rw [zW]
 refine wpS_bind (ask hh ?_)
 cases hb:b hint with
 | true=>exact EK ask mono hQ hh hb
 | false=>exact EJ ask mono hQ hh hb
end
set_option linter.unusedSectionVars false
open PySem PyProof.Rows
noncomputable def tX:Array Keyed->Array Keyed->StateT SortSt Sem (Array Keyed):=sortPriv% PySem.Builtin.mergeLo
noncomputable def eG:Nat->StateT SortSt Sem Unit:=sortPriv% PySem.Builtin.setMinGallop
theorem dZ (g:Nat):eG g=modify λs=>SortSt.mk' (kindOf s) (arrOf s) (pendingOf s) g (failedOf s):=rfl
abbrev ki (a b out:Array Keyed) (ia ib:Nat):=out++a.extract ia a.size++b.extract ib b.size
abbrev tO (a b out:Array Keyed) (ia ib:Nat):=out++b.extract ib b.size++a.extract ia a.size
section
variable {lt  : Keyed->Keyed->Bool}
theorem GN.trans (h:GN lt) {x y z:Keyed} (a:Le lt x y) (b:Le lt y z):Le lt x z:=h.ntr b a
theorem GN.of_lt (h:GN lt) {x y:Keyed} (a:lt x y=true):Le lt x y:=h.asym a
structure ML (lt:Keyed->Keyed->Bool) (w o u v:List Keyed):Prop where
 so:o.Pairwise (Le lt)
 su:u.Pairwise (Le lt)
 sv:v.Pairwise (Le lt)
 bu:∀x∈o,∀y∈u,Le lt x y
 bv:∀x∈o,∀y∈v,Le lt x y
 pm:(o++(u++v)).Perm w
theorem ML.left {w o u1 u2 v:List Keyed} (h:ML lt w o (u1++u2) v) (hx:∀x∈u1,∀y∈v,Le lt x y):ML lt w (o++u1) u2 v:=by
 obtain ⟨s1,s2,s3⟩:=aap.mp h.su
 refine ⟨aap.mpr ⟨h.so,s1,λx a y b=>h.bu x a y (aaE _ b)⟩,s2,h.sv,λx a y b=> ?_,λx a y b=> ?_,?_⟩
 ·rcases aan.mp a with a | a
  ·exact h.bu x a y (aat _ b)
  ·exact s3 x a y b
 ·rcases aan.mp a with a | a
  ·exact h.bv x a y b
  ·exact hx x a y b
 ·haveI:=h.pm
  simpa [aad] using this
theorem ML.right {w o u v1 v2:List Keyed} (h:ML lt w o u (v1++v2)) (hx:∀x∈v1,∀y∈u,Le lt x y):ML lt w (o++v1) u v2:=by
 obtain ⟨s1,s2,s3⟩:=aap.mp h.sv
 refine ⟨aap.mpr ⟨h.so,s1,λx a y b=>h.bv x a y (aaE _ b)⟩,h.su,s2,λx a y b=> ?_,λx a y b=> ?_,?_⟩
 ·rcases aan.mp a with a | a
  ·exact h.bu x a y b
  ·exact hx x a y b
 ·rcases aan.mp a with a | a
  ·exact h.bv x a y (aat _ b)
  ·exact s3 x a y b
 ·refine List.Perm.trans ?_ h.pm
  rw [aad]
  refine List.Perm.append_left _ ?_
  rw [<- aad,<- aad]
  exact List.Perm.append_right _ List.perm_append_comm
theorem ML.endL {w o u v:List Keyed} (h:ML lt w o u v) (hx:∀x∈u,∀y∈v,Le lt x y):qf lt w (o++u++v) :=
 ⟨aap.mpr ⟨aap.mpr ⟨h.so,h.su,h.bu⟩,h.sv,λx a y b=>(aan.mp a).elim (λa=>h.bv x a y b) λa=>hx x a y b⟩,by rw [aad];exact h.pm⟩
theorem ML.endR {w o u v:List Keyed} (h:ML lt w o u v) (hx:∀x∈v,∀y∈u,Le lt x y):qf lt w (o++v++u) :=
 ⟨aap.mpr ⟨aap.mpr ⟨h.so,h.sv,h.bv⟩,h.su,λx a y b=>(aan.mp a).elim (λa=>h.bu x a y b) λa=>hx x a y b⟩,by rw [aad];exact (List.Perm.append_left _ List.perm_append_comm).trans h.pm⟩
theorem dG (a:Array Keyed) (i j:Nat):(a.extract i j).toList=(a.toList.drop i).take (j-i):=by
 rw [Array.toList_extract]
theorem sQ (a:Array Keyed) (i:Nat):(a.extract i a.size).toList=a.toList.drop i:=by
 rw [dG]
 exact List.take_of_length_le (by rw [List.length_drop,aa2];exact aaL _)
theorem jf {a:Array Keyed} {i:Nat} {x:Keyed} (h:a[i]? = some x):a.toList.drop i=x::a.toList.drop (i+1):=by
 rw [<- aaA] at h
 obtain ⟨hi,e⟩:=aab.mp h
 rw [List.drop_eq_getElem_cons hi,e]
structure MP (lt:Keyed->Keyed->Bool) (ok:Keyed->Prop) (a b:Array Keyed):Prop where
 sa:a.toList.Pairwise (Le lt)
 sb:b.toList.Pairwise (Le lt)
 oa:∀x∈a.toList,ok x
 ob:∀x∈b.toList,ok x
 last:∀x∈b.toList,∀y∈a.toList.drop (a.size-1),Le lt x y
def Rn (lt:Keyed->Keyed->Bool) (a b out:Array Keyed) (ia ib:Nat):Prop:=ML lt (a.toList++b.toList) out.toList (a.toList.drop ia) (b.toList.drop ib)
variable {a b out:Array Keyed} {ia ib k:Nat}
theorem Rn.done (h:Rn lt a b out ia ib) (hb:b.size<=ib\/a.size<=ia):qf lt (a.toList++b.toList) (ki a b out ia ib).toList:=by
 rw [aa3,aa3,sQ,sQ]
 refine ML.endL h λx hx y hy=> ?_
 rcases hb with hb | hb
 ·rw [List.drop_eq_nil_of_le (by rw [aa2];exact hb)] at hy;cases hy
 ·rw [List.drop_eq_nil_of_le (by rw [aa2];exact hb)] at hx;cases hx
theorem Rn.last (p:MP lt ok a b) (h:Rn lt a b out ia ib) (ha:ia+1=a.size):qf lt (a.toList++b.toList) (tO a b out ia ib).toList:=by
 rw [aa3,aa3,sQ,sQ]
 refine ML.endR h λx hx y hy=>p.last x (List.mem_of_mem_drop hx) y ?_
 rw [show a.size-1=ia from aaf (aG 0x201192c211190c312 [_,_,_] rfl ha (aaa (aG 0x11901190c211 [_,_] rfl ha))) (aG 0x200192c1011190c212 [_,_,_] rfl ha (sA _ _))];exact hy
theorem Rn.pushB {x:Keyed} (h:Rn lt a b out ia ib) (hx:b[ib]? = some x) (hl:∀y∈a.toList.drop ia,Le lt x y):Rn lt a b (out.push x) ia (ib+1):=by
 unfold Rn at h ⊢
 rw [jf hx] at h
 rw [Array.toList_push]
 exact ML.right (v1:=[x]) h λy hy=>by rw [aag.mp hy];exact hl
theorem Rn.pushA {x:Keyed} (h:Rn lt a b out ia ib) (hx:a[ia]? = some x) (hl:∀y∈b.toList.drop ib,Le lt x y):Rn lt a b (out.push x) (ia+1) ib:=by
 unfold Rn at h ⊢
 rw [jf hx] at h
 rw [Array.toList_push]
 exact ML.left (u1:=[x]) h λy hy=>by rw [aag.mp hy];exact hl
theorem Rn.manyA (h:Rn lt a b out ia ib) (hl:∀x∈(a.toList.drop ia).take k,∀y∈b.toList.drop ib,Le lt x y):Rn lt a b (out++a.extract ia (ia+k)) (ia+k) ib:=by
 unfold Rn at h ⊢
 rw [aa3,dG,aaF]
 rw [<- aa0 k (a.toList.drop ia),List.drop_drop] at h
 exact ML.left h hl
theorem Rn.manyB (h:Rn lt a b out ia ib) (hl:∀x∈(b.toList.drop ib).take k,∀y∈a.toList.drop ia,Le lt x y):Rn lt a b (out++b.extract ib (ib+k)) ia (ib+k):=by
 unfold Rn at h ⊢
 rw [aa3,dG,aaF]
 rw [<- aa0 k (b.toList.drop ib),List.drop_drop] at h
 exact ML.right h hl
end
open PySem PyProof.Rows
structure jb (st st':SortSt):Prop where
 k:kindOf st'=kindOf st
 a:arrOf st'=arrOf st
 p:pendingOf st'=pendingOf st
 f:failedOf st'=failedOf st
theorem jb.refl (st:SortSt):jb st st:=⟨rfl,rfl,rfl,rfl⟩
theorem jb.gal {st st':SortSt} (h:jb st st') (g:Nat):jb st (SortSt.mk' (kindOf st') (arrOf st') (pendingOf st') g (failedOf st')):=⟨h.k,h.a,h.p,h.f⟩
section
variable {a b:Array Keyed}
theorem dP {x:Array Keyed} {i:Nat} (h:i<x.size):∃v,x[i]? = some v/\v∈x.toList:=⟨x[i],Array.getElem?_eq_getElem h,by simp⟩
theorem rH {x:Array Keyed} {i j:Nat} {v:Keyed} (h:x[j]? = some v) (hij:i<=j):v∈x.toList.drop i:=by
 rw [<- aaA] at h
 refine aaI (i:=j-i) ?_
 rw [List.getElem?_drop,Nat.add_sub_cancel' hij];exact h
theorem kz {x:Array Keyed} (p:x.toList.Pairwise (Le lt)) {i:Nat} {v:Keyed} (h:x[i]? = some v):∀y∈x.toList.drop (i+1),Le lt v y:=by
 haveI:=p.drop (i:=i)
 rw [jf h] at this
 exact (aaJ.mp this).1
theorem lt_size {x:Array Keyed} {i:Nat} {v:Keyed} (h:x[i]? = some v):i<x.size:=(Array.getElem?_eq_some_iff.mp h).1
theorem iZ {x:Array Keyed} {i k:Nat} {v:Keyed} (h:v∈(x.toList.drop i).take k):∃j,j<k/\x[i+j]? = some v:=by
 obtain ⟨j,hj,e⟩:=List.getElem_of_mem h
 rw [List.length_take] at hj
 refine ⟨j,aG 0x201210110112 [_,_,_] rfl hj (Nat.min_le_left _ _),?_⟩
 rw [List.getElem_take,List.getElem_drop] at e
 rw [<- aaA,<- e]
 exact aao _
theorem yk {x:Array Keyed} {i:Nat} {v:Keyed} (h:v∈x.toList.drop i):∃j,i<=j/\x[j]? = some v:=by
 obtain ⟨j,hj,e⟩:=List.getElem_of_mem h
 refine ⟨i+j,aaK _ _,?_⟩
 rw [List.getElem_drop] at e
 rw [<- aaA,<- e]
 exact aao _
theorem Ep (h:GN lt) {x:Array Keyed} (p:x.toList.Pairwise (Le lt)) {i j:Nat} {u v:Keyed} (hij:i<=j) (hu:x[i]? = some u) (hv:x[j]? = some v):i=j\/Le lt u v:=by
 rcases Nat.lt_or_ge i j with hlt | hge
 ·exact .inr (kz p hu v (rH hv hlt))
 ·exact .inl (aaf (hij) (hge))
theorem EL (an:qg (model prog w) A E s lt ok κ) {x:Array Keyed} (p:x.toList.Pairwise (Le lt)) (ox:∀v∈x.toList,ok v) {key:Keyed} (okk:ok key) {st:SortSt} (hk:kindOf st=κ) {i n hint:Nat} (hn:i+n<=x.size) (hh:hint<n) {Q:Option Nat->SortSt->Prop}
  (hQ:∀k,k<=n->(∀j v,i<=j->j<i+k->x[j]? = some v->Le lt v key)->(∀j v,i+k<=j->j<i+n->x[j]? = some v->lt key v=true)->Q (some k) st) :
  wpS (model prog w) A E s (eW false key x i n hint) Q st:=by
 have hf:∀j,j<n->x[i+j]? = some ((x[i+j]?).getD key)/\ok ((x[i+j]?).getD key):=λj hj=>by
  obtain ⟨v,e,m⟩:=dP (x:=x) (i:=i+j) (aG 0x230c11311210c012 [_,_,_,_] rfl hn hj)
  rw [e];exact ⟨rfl,ox v m⟩
 refine lu an (f:=λj=>(x[i+j]?).getD key) hk okk hf hh (λj l hjl hl hb=> ?_) λk hkn h1 h2=>hQ k hkn (λj v hj hj2 hv=> ?_) λj v hj hj2 hv=> ?_
 ·haveI e1:=(hf j (aG 0x201211110012 [_,_,_] rfl hjl hl)).1
  haveI e2:=(hf l hl).1
  have hb':(!lt key ((x[i+l]?).getD key))=true:=hb
  show (!lt key ((x[i+j]?).getD key))=true
  rcases Ep an.lin p (aG 0x12c02c010011 [_,_,_] rfl hjl) e1 e2 with h | h
  ·rw [show j=l from aaf (aG 0x21020c10c211 [_,_,_] rfl h) (aG 0x12020c10c311 [_,_,_] rfl h)];exact hb'
  ·rw [Bool.not_eq_true'] at hb' ⊢
   exact an.lin.trans h hb'
 ·haveI:=h1 (j-i) (aG 0x231013c2121c0112 [_,_,_,_] rfl hj2 (aaa hj))
  haveI e:i+(j-i)=j:=aaf (aG 0x201c0210c211 [_,_,_] rfl (aaa hj)) (aG 0x12c0021c0011 [_,_,_] rfl (sA _ _))
  rw [e,hv] at this
  haveI:(!lt key v)=true:=this
  rw [Bool.not_eq_true'] at this;exact this
 ·haveI:=h2 (j-i) (aG 0x31003c201210c012 [_,_,_,_] rfl hj (sA _ _)) (aG 0x231013c2121c0112 [_,_,_,_] rfl hj2 (aaa (aG 0x200210c011 [_,_,_] rfl hj)))
  haveI e:i+(j-i)=j:=aaf (aG 0x201c0210c211 [_,_,_] rfl (aaa (aG 0x200210c011 [_,_,_] rfl hj))) (aG 0x12c0021c0011 [_,_,_] rfl (sA _ _))
  rw [e,hv] at this
  haveI:(!lt key v)=false:=this
  rw [Bool.not_eq_false'] at this;exact this
theorem EM (an:qg (model prog w) A E s lt ok κ) {x:Array Keyed} (p:x.toList.Pairwise (Le lt)) (ox:∀v∈x.toList,ok v) {key:Keyed} (okk:ok key) {st:SortSt} (hk:kindOf st=κ) {i n hint:Nat} (hn:i+n<=x.size) (hh:hint<n) {Q:Option Nat->SortSt->Prop}
  (hQ:∀k,k<=n->(∀j v,i<=j->j<i+k->x[j]? = some v->lt v key=true)->(∀j v,i+k<=j->j<i+n->x[j]? = some v->Le lt key v)->Q (some k) st) :
  wpS (model prog w) A E s (eW true key x i n hint) Q st:=by
 have hf:∀j,j<n->x[i+j]? = some ((x[i+j]?).getD key)/\ok ((x[i+j]?).getD key):=λj hj=>by
  obtain ⟨v,e,m⟩:=dP (x:=x) (i:=i+j) (aG 0x230c11311210c012 [_,_,_,_] rfl hn hj)
  rw [e];exact ⟨rfl,ox v m⟩
 refine lu an (f:=λj=>(x[i+j]?).getD key) hk okk hf hh (λj l hjl hl hb=> ?_) λk hkn h1 h2=>hQ k hkn (λj v hj hj2 hv=> ?_) λj v hj hj2 hv=> ?_
 ·haveI e1:=(hf j (aG 0x201211110012 [_,_,_] rfl hjl hl)).1
  haveI e2:=(hf l hl).1
  have hb':lt ((x[i+l]?).getD key) key=true:=hb
  show lt ((x[i+j]?).getD key) key=true
  rcases Ep an.lin p (aG 0x12c02c010011 [_,_,_] rfl hjl) e1 e2 with h | h
  ·rw [show j=l from aaf (aG 0x21020c10c211 [_,_,_] rfl h) (aG 0x12020c10c311 [_,_,_] rfl h)];exact hb'
  ·cases e:lt ((x[i+j]?).getD key) key with
   | true=>rfl
   | false =>
    have:=an.lin.ntr h e
    rw [hb'] at this;cases this
 ·have:=h1 (j-i) (aG 0x231013c2121c0112 [_,_,_,_] rfl hj2 (aaa hj))
  haveI e:i+(j-i)=j:=aaf (aG 0x201c0210c211 [_,_,_] rfl (aaa hj)) (aG 0x12c0021c0011 [_,_,_] rfl (sA _ _))
  rw [e,hv] at this
  exact this
 ·have:=h2 (j-i) (aG 0x31003c201210c012 [_,_,_,_] rfl hj (sA _ _)) (aG 0x231013c2121c0112 [_,_,_,_] rfl hj2 (aaa (aG 0x200210c011 [_,_,_] rfl hj)))
  haveI e:i+(j-i)=j:=aaf (aG 0x201c0210c211 [_,_,_] rfl (aaa (aG 0x200210c011 [_,_,_] rfl hj))) (aG 0x12c0021c0011 [_,_,_] rfl (sA _ _))
  rw [e,hv] at this
  exact this
end
open PySem PyProof.Rows
theorem fn {σ α:Type} {c:Prop} [Decidable c] {m n:StateT σ Sem α} {Q:α->σ->Prop} {st:σ} (hc:c) (h:wpS M A E s m Q st):wpS M A E s (if c then m else n) Q st:=by rw [if_pos hc];exact h
theorem dM {σ α:Type} {c:Prop} [Decidable c] {m n:StateT σ Sem α} {Q:α->σ->Prop} {st:σ} (hc:¬c) (h:wpS M A E s n Q st):wpS M A E s (if c then m else n) Q st:=by rw [if_neg hc];exact h
abbrev LS:=Option (Array Keyed)×Array Keyed×Nat×Nat×Nat×Nat×Nat
noncomputable def Fu (a b out:Array Keyed) (ia ib mg ac bc:Nat):StateT SortSt Sem (ForInStep LS):=do
 let d <- elem' a ia
 if (ia+1+1==a.size)=true then pure (ForInStep.done (some (tO a b (out.push d) (ia+1) ib),out.push d,ia+1,ib,mg,ac,bc))
 else if (decide (ac<7)&&decide (bc<7))=true then pure (ForInStep.done (none,out.push d,ia+1,ib,mg,ac,bc))
 else pure (ForInStep.yield (none,out.push d,ia+1,ib,mg,ac,bc))
noncomputable def Fs (a b out:Array Keyed) (ia ib mg ac bc:Nat):StateT SortSt Sem (ForInStep LS):=do
 let d <- elem' b ib
 if (ib+1==b.size)=true then pure (ForInStep.done (some (ki a b (out.push d) ia (ib+1)),out.push d,ia,ib+1,mg,ac,bc))
 else do
  let e <- elem' a ia
  let x <- eW true e b (ib+1) (b.size-(ib+1)) 0
  match x with
  | some k =>
   if k>0 then
    if (ib+1+k==b.size)=true then pure (ForInStep.done (some (ki a b (out.push d++b.extract (ib+1) (ib+1+k)) ia (ib+1+k)),out.push d++b.extract (ib+1) (ib+1+k),ia,ib+1+k,mg,ac,k))
    else Fu a b (out.push d++b.extract (ib+1) (ib+1+k)) ia (ib+1+k) mg ac k
   else Fu a b (out.push d) ia (ib+1) mg ac k
  | _=>pure (ForInStep.done (some (ki a b (out.push d) ia (ib+1)),out.push d,ia,ib+1,mg,ac,bc))
noncomputable def DJ (a b out:Array Keyed) (ia ib mg ac bc:Nat):StateT SortSt Sem (ForInStep LS):=do
 eG mg
 let d <- elem' b ib
 let x <- eW false d a ia (a.size-ia) 0
 match x with
 | some k =>
  if k>0 then
   if (ia+k+1==a.size)=true then pure (ForInStep.done (some (tO a b (out++a.extract ia (ia+k)) (ia+k) ib),out++a.extract ia (ia+k),ia+k,ib,mg,k,bc))
   else if (ia+k==a.size)=true then pure (ForInStep.done (some (ki a b (out++a.extract ia (ia+k)) (ia+k) ib),out++a.extract ia (ia+k),ia+k,ib,mg,k,bc))
   else Fs a b (out++a.extract ia (ia+k)) (ia+k) ib mg k bc
  else Fs a b out ia ib mg k bc
 | _=>pure (ForInStep.done (some (ki a b out ia ib),out,ia,ib,mg,ac,bc))
abbrev AQ (β:Type):=Option (Array Keyed)×Array Keyed×Nat×Nat×β
noncomputable def IH (a b:Array Keyed) (mg:Nat) (out:Array Keyed) (ia ib ac bc:Nat):StateT SortSt Sem (ForInStep (AQ (Nat×Nat))):=do
 let y <- elem' b ib
 let x <- elem' a ia
 let r <- lt' y x
 match r with
 | some w =>
  if w=true then do
   let d <- elem' b ib
   if (ib+1==b.size)=true then pure (.done (some (ki a b (out.push d) ia (ib+1)),out.push d,ia,ib+1,0,bc+1))
   else if bc+1>=mg then pure (.done (none,out.push d,ia,ib+1,0,bc+1)) else pure (.yield (none,out.push d,ia,ib+1,0,bc+1))
  else do
   let d <- elem' a ia
   if (ia+1+1==a.size)=true then pure (.done (some (tO a b (out.push d) (ia+1) ib),out.push d,ia+1,ib,ac+1,0))
   else if ac+1>=mg then pure (.done (none,out.push d,ia+1,ib,ac+1,0)) else pure (.yield (none,out.push d,ia+1,ib,ac+1,0))
 | _=>pure (.done (some (ki a b out ia ib),out,ia,ib,ac,bc))
noncomputable def Hr (a b:Array Keyed) (c:LS):StateT SortSt Sem (ForInStep LS) :=
 if c.2.2.2.2.1>1 then DJ a b c.2.1 c.2.2.1 c.2.2.2.1 (c.2.2.2.2.1-1) c.2.2.2.2.2.1 c.2.2.2.2.2.2 else DJ a b c.2.1 c.2.2.1 c.2.2.2.1 c.2.2.2.2.1 c.2.2.2.2.2.1 c.2.2.2.2.2.2
noncomputable def Jm (c:LS):StateT SortSt Sem (ForInStep (AQ Nat)) :=
 match c.1 with
 | some r=>pure (.done (some r,c.2.1,c.2.2.1,c.2.2.2.1,c.2.2.2.2.1))
 | none=>do
  eG (c.2.2.2.2.1+1)
  pure (.yield (none,c.2.1,c.2.2.1,c.2.2.2.1,c.2.2.2.2.1+1))
noncomputable def Jl (a b:Array Keyed) (mg:Nat) (c:AQ (Nat×Nat)):StateT SortSt Sem (ForInStep (AQ Nat)) :=
 match c.1 with
 | some r=>pure (.done (some r,c.2.1,c.2.2.1,c.2.2.2.1,mg))
 | none=>do
  rule "list.sort.gallop"
  let c2 <- forIn [0:a.size+b.size] ((none,c.2.1,c.2.2.1,c.2.2.2.1,mg+1,c.2.2.2.2.1,c.2.2.2.2.2):LS) (λ_=>Hr a b)
  Jm c2
noncomputable def JG (a b:Array Keyed) (c:AQ Nat):StateT SortSt Sem (ForInStep (AQ Nat)):=do
 let c1 <- forIn [0:a.size+b.size] ((none,c.2.1,c.2.2.1,c.2.2.2.1,0,0):AQ (Nat×Nat)) (λ_ d=>IH a b c.2.2.2.2 d.2.1 d.2.2.1 d.2.2.2.1 d.2.2.2.2.1 d.2.2.2.2.2)
 Jl a b c.2.2.2.2 c1
noncomputable def JE (c:AQ Nat):StateT SortSt Sem (Array Keyed) :=
 match c.1 with
 | some r=>pure r
 | none=>unsupported "internal:list.sort.merge-bound"
noncomputable def JF (a b:Array Keyed) (d:Keyed):StateT SortSt Sem (Array Keyed) :=
 if (1==b.size)=true then pure (ki a b #[d] 0 1)
 else if (0+1==a.size)=true then pure (tO a b #[d] 0 1)
 else do
  let st <- get
  let c <- forIn [0:a.size+b.size] ((none,#[d],0,1,gallopOf st):AQ Nat) (λ_=>JG a b)
  JE c
theorem An (a b:Array Keyed):tX a b=(do
 rule "list.sort.merge-lo"
 let d <- elem' b 0
 JF a b d):=by kernel_rfl
section
variable {a b:Array Keyed}
variable (an:qg (model prog w) A E s lt ok κ) (p:MP lt ok a b) {st:SortSt} {K:ForInStep LS->SortSt->Prop} {B:Nat}
 (kR:∀r c st',jb st st'->qf lt (a.toList++b.toList) (Array.toList r)->c.1=some r->K (.done c) st')
 (kN:∀out ia ib mg ac bc st',jb st st'->Rn lt a b out ia ib->ia+1<a.size->ib<b.size->B<=ia+ib->K (.done (none,out,ia,ib,mg,ac,bc)) st'/\K (.yield (none,out,ia,ib,mg,ac,bc)) st')
include an p kR kN
theorem zE {out:Array Keyed} {ia ib mg ac bc:Nat} {st':SortSt} (S:jb st st') (h:Rn lt a b out ia ib) (ha:ia+1<a.size) (hb:ib<b.size) {va:Keyed} (ea:a[ia]? = some va) (hx:∀y∈b.toList.drop ib,Le lt va y) (hB:B<=ia+ib+1) :
  wpS (model prog w) A E s (Fu a b out ia ib mg ac bc) K st':=by
 unfold Fu
 refine wpS_bind (bC ea ?_)
 have h':=h.pushA ea hx
 by_cases e:ia+1+1=a.size
 ·rw [if_pos (beq_iff_eq.mpr e)]
  exact wpS_pure (kR _ _ _ S (h'.last p e) rfl)
 ·rw [if_neg (λh=>e (beq_iff_eq.mp h))]
  have:=kN (out.push va) (ia+1) ib mg ac bc st' S h' ((aar e).elim (λy2=>y2) (λy2=>bP 0x119190cc119190cc1111190c122 ha y2)) hb (aG 0x2191cc001921cc0011 [_,_,_] rfl hB)
  split
  ·exact wpS_pure this.1
  ·exact wpS_pure this.2
theorem zD {out:Array Keyed} {ia ib mg ac bc:Nat} {st':SortSt} (hk:kindOf st=κ) (S:jb st st') (h:Rn lt a b out ia ib) (ha:ia+1<a.size) (hb:ib<b.size) {vb:Keyed} (eb:b[ib]? = some vb) (hx:∀y∈a.toList.drop ia,Le lt vb y) (hB:B<=ia+ib+2) :
  wpS (model prog w) A E s (Fs a b out ia ib mg ac bc) K st':=by
 unfold Fs
 refine wpS_bind (bC eb ?_)
 have h':=h.pushB eb hx
 by_cases e:ib+1=b.size
 ·rw [if_pos (beq_iff_eq.mpr e)]
  exact wpS_pure (kR _ _ _ S (h'.done (.inl (aG 0x190c101190c311 [_,_] rfl e))) rfl)
 ·rw [if_neg (λh=>e (beq_iff_eq.mp h))]
  obtain ⟨va,ea,ma⟩:=dP (x:=a) (i:=ia) (aG 0x1011190c111 [_,_] rfl ha)
  refine wpS_bind (bC ea (wpS_bind (EM an p.sb p.ob (p.oa _ ma) (S.k.trans hk) (by exact aG 0x20191cc02191c0c211 [_,_,_] rfl (aaa (aG 0x1190c010111 [_,_] rfl hb))) ((aar e).elim (λy2=>lZ 0x2091190c2c1011190c112 y2 (sA _ _)) (λy2=>lZ 0x2091190c11110112 hb y2)) λk hkn h1 h2=> ?_)))
  have many:∀x∈(b.toList.drop (ib+1)).take k,∀y∈a.toList.drop ia,Le lt x y:=λx hx y hy=>by
   obtain ⟨j,hj,ej⟩:=iZ hx
   have hlt:Le lt x va:=an.lin.of_lt (h1 _ _ (aG 0x1190cc190c00 [_,_] rfl) (aG 0x1192cc0192cc110111 [_,_,_] rfl hj) ej)
   rw [jf ea] at hy
   rcases aah.mp hy with rfl | hy
   ·exact hlt
   ·exact an.lin.trans hlt (kz p.sa ea y hy)
  have rest:∀y∈b.toList.drop (ib+1+k),Le lt va y:=λy hy=>by
   obtain ⟨j,hj,ej⟩:=yk hy
   haveI:=lt_size ej
   exact h2 j y hj (aG 0x2193cc01193c2c10110112 [_,_,_,_] rfl this (sA _ _)) ej
  dsimp only
  by_cases hk0:k>0
  ·rw [if_pos hk0]
   have h'':=h'.manyB many
   by_cases e2:ib+1+k=b.size
   ·rw [if_pos (beq_iff_eq.mpr e2)]
    exact wpS_pure (kR _ _ _ S (h''.done (.inl (aG 0x1190cc2021190cc311 [_,_,_] rfl e2))) rfl)
   ·rw [if_neg (λh=>e2 (beq_iff_eq.mp h))]
    exact zE an p kR kN S h'' ha ((aar e2).elim (λy2=>y2) (λy2=>vd 0x20193cc12193c1c220193cc21110023 hkn y2 (aaa (bP 0x1190c010111 hb)))) ea rest (by exact aG 0x193192cc1cc002921cc0011 [_,_,_,_] rfl hB)
  ·rw [if_neg hk0]
   obtain rfl:k=0:=aaf (aG 0x900009511 [_] rfl hk0) (aG 0x900 [_] rfl)
   exact zE an p kR kN S h' ha ((aar e).elim (λy2=>y2) (λy2=>bP 0x1190c1190c11110122 hb y2)) ea rest (aG 0x19192c1cc002921cc0011 [_,_,_] rfl hB)
theorem ES {out:Array Keyed} {ia ib mg ac bc:Nat} {st':SortSt} (hk:kindOf st=κ) (S:jb st st') (h:Rn lt a b out ia ib) (ha:ia+1<a.size) (hb:ib<b.size) (hB:B<=ia+ib+2) :
  wpS (model prog w) A E s (DJ a b out ia ib mg ac bc) K st':=by
 unfold DJ
 rw [dZ]
 refine wpS_bind (wpS_modify ?_)
 have S':=S.gal mg
 obtain ⟨vb,eb,mb⟩:=dP (x:=b) (i:=ib) hb
 refine wpS_bind (bC eb (wpS_bind (EL an p.sa p.oa (p.ob _ mb) (S'.k.trans hk) (by exact aG 0x201c0210c211 [_,_,_] rfl (aaa (aG 0x1001190c111 [_,_] rfl ha))) (Nat.sub_pos_of_lt (Nat.lt_of_succ_lt ha)) λk hkn h1 h2=> ?_)))
 have many:∀x∈(a.toList.drop ia).take k,∀y∈b.toList.drop ib,Le lt x y:=λx hx y hy=>by
  obtain ⟨j,hj,ej⟩:=iZ hx
  have hle:Le lt x vb:=h1 _ _ (aG 0x10c000 [_,_] rfl) (aG 0x12c02c110111 [_,_,_] rfl hj) ej
  rw [jf eb] at hy
  rcases aah.mp hy with rfl | hy
  ·exact hle
  ·exact an.lin.trans hle (kz p.sb eb y hy)
 have rest:∀y∈a.toList.drop (ia+k),Le lt vb y:=λy hy=>by
  obtain ⟨j,hj,ej⟩:=yk hy
  haveI:=lt_size ej
  exact an.lin.of_lt (h2 j y hj (aG 0x23c0132c10110112 [_,_,_,_] rfl this (sA _ _)) ej)
 dsimp only
 by_cases hk0:k>0
 ·rw [if_pos hk0]
  have h'':=h.manyA many
  by_cases e1:ia+k+1=a.size
  ·rw [if_pos (beq_iff_eq.mpr e1)]
   exact wpS_pure (kR _ _ _ S' (h''.last p e1) rfl)
  ·rw [if_neg (λh=>e1 (beq_iff_eq.mp h))]
   by_cases e2:ia+k=a.size
   ·rw [if_pos (beq_iff_eq.mpr e2)]
    exact wpS_pure (kR _ _ _ S' (h''.done (.inr (aG 0x10c20210c311 [_,_,_] rfl e2))) rfl)
   ·rw [if_neg (λh=>e2 (beq_iff_eq.mp h))]
    exact zD an p kR kN hk S' h'' ((aar e1).elim (λy2=>y2) (λy2=>(aar e2).elim (λy1=>lZ 0x1921cc1021c121921cc0112 y2 y1) (λy1=>vd 0x21903cc1231c2303c21210033 hkn y1 (aaa (bP 0x1001190c111 ha))))) hb eb rest (by exact aG 0x29231ccc002921cc0011 [_,_,_,_] rfl hB)
 ·rw [if_neg hk0]
  obtain rfl:k=0:=aaf (aG 0x900009511 [_] rfl hk0) (aG 0x900 [_] rfl)
  exact zD an p kR kN hk S' h ha hb eb rest (hB)
end
section
variable {a b:Array Keyed}
structure Lv (lt:Keyed->Keyed->Bool) (a b:Array Keyed) (N x:Nat) (out:Array Keyed) (ia ib:Nat):Prop where
 r:Rn lt a b out ia ib
 a1:ia+1<a.size
 b1:ib<b.size
 s:x+N<=ia+ib
def Il {β:Type} (lt:Keyed->Keyed->Bool) (a b:Array Keyed) (N x:Nat) (c:AQ β):Prop:=c.1=none/\Lv lt a b N x c.2.1 c.2.2.1 c.2.2.2.1
def Dl {β:Type} (lt:Keyed->Keyed->Bool) (a b:Array Keyed) (c:AQ β):Prop:= ∃r,c.1=some r/\qf lt (a.toList++b.toList) r.toList
theorem Lv.no {N ia ib:Nat} {out:Array Keyed} (h:Lv lt a b N (max 0 (a.size+b.size)) out ia ib):False:=by
 haveI s:=h.s
 rw [Nat.zero_max] at s
 exact absurd (aam (aaK _ N) s) (Nat.not_le.mpr (Nat.add_lt_add (Nat.lt_of_succ_lt h.a1) h.b1))
section
variable (an:qg (model prog w) A E s lt ok κ) (p:MP lt ok a b) {st:SortSt} (hk:kindOf st=κ)
include an p hk
theorem EQ {st':SortSt} (S:jb st st') {N x mg ia ib ac bc:Nat} {out:Array Keyed} (h:Lv lt a b N x out ia ib) {K:ForInStep (AQ (Nat×Nat))->SortSt->Prop} (kD:∀c,Dl lt a b c\/Il lt a b N 1 c->K (.done c) st') (kY:∀c,Il lt a b N (x+1) c->K (.yield c) st') :
  wpS (model prog w) A E s (IH a b mg out ia ib ac bc) K st':=by
 have h1:=h.a1
 have h2:=h.b1
 have hs:=h.s
 refine bS λY9 y9=> ?_
 obtain ⟨va,ea,ma⟩:=dP (x:=a) (i:=ia) (Nat.lt_of_succ_lt h1)
 obtain ⟨vb,eb,mb⟩:=dP (x:=b) (i:=ib) h2
 refine y9 ?_
 refine wpS_bind (bC eb (wpS_bind (bC ea (wpS_bind (an.ask (p.ob _ mb) (p.oa _ ma) (S.k.trans hk) ?_)))))
 cases hl:lt vb va with
 | true =>
  refine fn rfl (wpS_bind (bC eb ?_))
  have h':=h.r.pushB eb λy hy=>by
   have hlt:=an.lin.of_lt hl
   rw [jf ea] at hy
   rcases aah.mp hy with rfl | hy
   ·exact hlt
   ·exact an.lin.trans hlt (kz p.sa ea y hy)
  by_cases e:ib+1=b.size
  ·exact fn (beq_iff_eq.mpr e) (wpS_pure (kD _ (.inl ⟨_,rfl,h'.done (.inl (Nat.le_of_eq e.symm))⟩)))
  ·have v:∀ {x'},x'+N<=ia+(ib+1)->Lv lt a b N x' (out.push vb) ia (ib+1):=λg=>⟨h',h1,(aar e).elim (λy2=>y2) (λy2=>bP 0x1190c1190c11110122 h2 y2),g⟩
   refine dM (λh=>e (beq_iff_eq.mp h)) ?_
   by_cases q:bc+1>=mg
   ·exact fn q (wpS_pure (kD _ (.inr ⟨rfl,v (aG 0x193c2c119c032c10c011 [_,_,_,_] rfl hs)⟩)))
   ·exact dM q (wpS_pure (kY _ ⟨rfl,v (aG 0x193c2c1190cc032c10c011 [_,_,_,_] rfl hs)⟩))
 | false =>
  refine dM aa5 (wpS_bind (bC ea ?_))
  have h':=h.r.pushA ea λy hy=>by
   rw [jf eb] at hy
   rcases aah.mp hy with rfl | hy
   ·exact hl
   ·exact an.lin.trans hl (kz p.sb eb y hy)
  by_cases e:ia+1+1=a.size
  ·exact fn (beq_iff_eq.mpr e) (wpS_pure (kD _ (.inl ⟨_,rfl,h'.last p e⟩)))
  ·have v:∀ {x'},x'+N<=ia+1+ib->Lv lt a b N x' (out.push va) (ia+1) ib:=λg=>⟨h',(aar e).elim (λy2=>y2) (λy2=>bP 0x119190cc119190cc1111190c122 h1 y2),h2,g⟩
   refine dM (λh=>e (beq_iff_eq.mp h)) ?_
   by_cases q:ac+1>=mg
   ·exact fn q (wpS_pure (kD _ (.inr ⟨rfl,v (aG 0x3192cc119c032c10c011 [_,_,_,_] rfl hs)⟩)))
   ·exact dM q (wpS_pure (kY _ ⟨rfl,v (aG 0x3192cc1190cc032c10c011 [_,_,_,_] rfl hs)⟩))
theorem ER {st':SortSt} (S:jb st st') {N x:Nat} {c:LS} (h:Lv lt a b N x c.2.1 c.2.2.1 c.2.2.2.1) {K:ForInStep LS->SortSt->Prop} (kD:∀c st2,jb st st2->Dl lt a b c\/Il lt a b N 0 c->K (.done c) st2) (kY:∀c st2,jb st st2->Il lt a b N (x+1) c->K (.yield c) st2) :
  wpS (model prog w) A E s (Hr a b c) K st':=by
 have key:∀(mg ac bc:Nat),wpS (model prog w) A E s (DJ a b c.2.1 c.2.2.1 c.2.2.2.1 mg ac bc) K st':=λmg ac bc=>by
  have hs:=h.s
  exact ES an p (B:=c.2.2.1+c.2.2.2.1+2) (λr c st2 S' hr hc=>kD c st2 S' (.inl ⟨r,hc,hr⟩)) (λo i j mm u v st2 S' r1 r2 r3 r4=>⟨kD _ _ S' (.inr ⟨rfl,⟨r1,r2,r3,by dsimp only;exact aG 0x54c109c054c2932cc0132c10c012 [_,_,_,_,_,_] rfl hs r4⟩⟩),kY _ _ S' ⟨rfl,⟨r1,r2,r3,by dsimp only;exact aG 0x54c1190cc054c2932cc0132c10c012 [_,_,_,_,_,_] rfl hs r4⟩⟩⟩) hk S h.r h.a1 h.b1 (aaL _)
 unfold Hr
 by_cases hm:c.2.2.2.2.1>1
 ·exact fn hm (key _ _ _)
 ·exact dM hm (key _ _ _)
theorem F7 {st':SortSt} (S:jb st st') {x:Nat} {c:AQ Nat} (h:Lv lt a b 0 x c.2.1 c.2.2.1 c.2.2.2.1) {K:ForInStep (AQ Nat)->SortSt->Prop} (kD:∀c st2,jb st st2->Dl lt a b c->K (.done c) st2) (kY:∀c st2,jb st st2->Il lt a b 0 (x+1) c->K (.yield c) st2) :
  wpS (model prog w) A E s (JG a b c) K st':=by
 haveI hs:=h.s
 refine wpS_bind (wpS_mono (wpS_forRange (I:=λx c1 st2=>st2=st'/\Il lt a b (c.2.2.1+c.2.2.2.1) x c1) (Q:=λc1 st2=>st2=st'/\(Dl lt a b c1\/Il lt a b (c.2.2.1+c.2.2.2.1) 1 c1)) ?_ (λ_ _ g=>g.2.2.no.elim) ⟨rfl,rfl,⟨h.r,h.a1,h.b1,Nat.le_of_eq (aa6 _)⟩⟩) λc1 st2 g=> ?_)
 ·rintro y d _ _ _ ⟨rfl,g⟩
  exact EQ an p hk S g.2 (λ_ q=>⟨rfl,q⟩) λ_ q=>⟨rfl,q⟩
 rw [g.1]
 rcases g.2 with ⟨r,e,hr⟩ | ⟨e,v⟩
 ·unfold Jl;rw [e];exact wpS_pure (kD _ _ S ⟨r,rfl,hr⟩)
 unfold Jl;rw [e]
 haveI hs2:=v.s
 refine wpS_bind (wpS_lift (wpAny_rule ⟨rfl,?_⟩))
 refine wpS_bind (wpS_mono (wpS_forRange (I:=λx d st3=>jb st st3/\Il lt a b (c1.2.2.1+c1.2.2.2.1) x d) (Q:=λd st3=>jb st st3/\(Dl lt a b d\/Il lt a b (c1.2.2.1+c1.2.2.2.1) 0 d)) ?_ (λ_ _ g=>g.2.2.no.elim) ⟨S,rfl,⟨v.r,v.a1,v.b1,Nat.le_of_eq (aa6 _)⟩⟩) λd st3 g=> ?_)
 ·exact λy d st3 _ _ g=>ER an p hk g.1 g.2.2 (λ_ _ S q=>⟨S,q⟩) λ_ _ S q=>⟨S,q⟩
 rcases g.2 with ⟨r,e,hr⟩ | ⟨e,u⟩
 ·unfold Jm;rw [e];exact wpS_pure (kD _ _ g.1 ⟨r,rfl,hr⟩)
 ·haveI hs3:=u.s
  unfold Jm;rw [e,dZ]
  exact wpS_bind (wpS_modify (wpS_pure (kY _ _ (g.1.gal _) ⟨rfl,⟨u.r,u.a1,u.b1,by dsimp only;exact aG 0x65c09190cc065c43c09c0143c21c19c0121c090c013 [_,_,_,_,_,_,_] rfl hs hs2 hs3⟩⟩)))
end
theorem zH (an:qg (model prog w) A E s lt ok κ) (p:MP lt ok a b) {st:SortSt} (hk:kindOf st=κ) (h0:∀x y,b[0]? = some x->a[0]? = some y->lt x y=true) (ha:1<=a.size) (hb:1<=b.size) {Q:Array Keyed->SortSt->Prop}
  (hQ:∀r st',jb st st'->qf lt (a.toList++b.toList) r.toList->Q r st'):wpS (model prog w) A E s (tX a b) Q st:=by
 obtain ⟨vb,eb,mb⟩:=dP (x:=b) (i:=0) hb
 obtain ⟨va,ea,ma⟩:=dP (x:=a) (i:=0) ha
 have R0:Rn lt a b #[vb] 0 1:=by
  haveI R00:Rn lt a b #[] 0 0:=⟨.nil,p.sa,p.sb,λ_ h=>(nomatch h),λ_ h=>(nomatch h),.refl _⟩
  refine R00.pushB eb λy hy=> ?_
  have hlt:=an.lin.of_lt (h0 vb va eb ea)
  rw [jf ea] at hy
  rcases aah.mp hy with rfl | hy
  ·exact hlt
  ·exact an.lin.trans hlt (kz p.sa ea y hy)
 rw [An]
 refine wpS_bind (wpS_lift (wpAny_rule ⟨rfl,wpS_bind (bC eb ?_)⟩))
 unfold JF
 by_cases e1:1=b.size
 ·exact fn (beq_iff_eq.mpr e1) (wpS_pure (hQ _ _ (jb.refl _) (R0.done (.inl (Nat.le_of_eq e1.symm)))))
 refine dM (λh=>e1 (beq_iff_eq.mp h)) ?_
 by_cases e2:0+1=a.size
 ·exact fn (beq_iff_eq.mpr e2) (wpS_pure (hQ _ _ (jb.refl _) (R0.last p e2)))
 refine dM (λh=>e2 (beq_iff_eq.mp h)) (wpS_bind (wpS_get (wpS_bind (wpS_mono (wpS_forRange (I:=λx c st'=>jb st st'/\Il lt a b 0 x c) (Q:=λc st'=>jb st st'/\Dl lt a b c) ?_ (λ_ _ g=>g.2.2.no.elim) ⟨jb.refl _,rfl,⟨R0,by dsimp only;exact (aar e2).elim (λy2=>y2) (λy2=>bO 0x1909c11909c011019022 ha y2),by dsimp only;exact (aar e1).elim (λy2=>y2) (λy2=>bO 0x19119011019022 hb y2),Nat.zero_le _⟩⟩) λc st' g=> ?_))))
 ·exact λx c st' _ _ g=>F7 an p hk g.1 g.2.2 (λ_ _ S q=>⟨S,q⟩) λ_ _ S q=>⟨S,q⟩
 ·obtain ⟨S,r,e,hr⟩:=g
  unfold JE;rw [e];exact wpS_pure (hQ r _ S hr)
end
open PySem PyProof.Rows
noncomputable def tW:Array Keyed->Array Keyed->StateT SortSt Sem (Array Keyed):=sortPriv% PySem.Builtin.mergeHi
abbrev kh (a b out:Array Keyed) (na nb:Nat):=a.extract 0 na++b.extract 0 nb++out.reverse
abbrev pk (a b out:Array Keyed) (na nb:Nat):=b.extract 0 nb++a.extract 0 na++out.reverse
section
structure IX (lt:Keyed->Keyed->Bool) (ok:Keyed->Prop) (a b:Array Keyed):Prop where
 sa:a.toList.Pairwise (Le lt)
 sb:b.toList.Pairwise (Le lt)
 oa:∀x∈a.toList,ok x
 ob:∀x∈b.toList,ok x
 first:∀x∈b.toList.take 1,∀y∈a.toList,Le lt x y
def Rh (lt:Keyed->Keyed->Bool) (a b out:Array Keyed) (na nb:Nat):Prop:=ML (λx y=>lt y x) (a.toList++b.toList) out.toList (a.toList.take na).reverse (b.toList.take nb).reverse
variable {a b out:Array Keyed} {na nb k:Nat}
theorem Fe (a:Array Keyed) (n:Nat):(a.extract 0 n).toList=a.toList.take n:=by rw [dG,List.drop_zero,Nat.sub_zero]
theorem Bh {w c:List Keyed} (h:qf (λx y=>lt y x) w c):qf lt w c.reverse:=⟨List.pairwise_reverse.mpr h.1,(List.reverse_perm c).trans h.2⟩
theorem Rh.done (h:Rh lt a b out na nb) (hb:nb=0\/na=0):qf lt (a.toList++b.toList) (kh a b out na nb).toList:=by
 haveI:=Bh (ML.endR h λx hx y hy=>by
  rcases hb with rfl | rfl
  ·cases hx
  ·cases hy)
 rw [List.reverse_append,List.reverse_append,List.reverse_reverse,List.reverse_reverse,<- aad] at this
 rw [aa3,aa3,Fe,Fe,Array.toList_reverse];exact this
theorem Rh.first (p:IX lt ok a b) (h:Rh lt a b out na nb) (hb:nb=1):qf lt (a.toList++b.toList) (pk a b out na nb).toList:=by
 subst hb
 haveI:=Bh (ML.endL h λx hx y hy=>p.first y (aax.mp hy) x (List.mem_of_mem_take (aax.mp hx)))
 rw [List.reverse_append,List.reverse_append,List.reverse_reverse,List.reverse_reverse,<- aad] at this
 rw [aa3,aa3,Fe,Fe,Array.toList_reverse];exact this
theorem ny {x:Array Keyed} {i:Nat} {v:Keyed} (h:x[i]? = some v):(x.toList.take (i+1)).reverse=v::(x.toList.take i).reverse:=by
 rw [<- aaA] at h
 rw [List.take_add_one,h,List.reverse_append];rfl
theorem Rh.pushB {x:Keyed} (h:Rh lt a b out na (nb+1)) (hx:b[nb]? = some x) (hl:∀y∈a.toList.take na,Le lt y x):Rh lt a b (out.push x) na nb:=by
 unfold Rh at h ⊢
 rw [ny hx] at h
 rw [Array.toList_push]
 exact ML.right (v1:=[x]) h λy hy z hz=>by rw [aag.mp hy];exact hl z (aax.mp hz)
theorem Rh.pushA {x:Keyed} (h:Rh lt a b out (na+1) nb) (hx:a[na]? = some x) (hl:∀y∈b.toList.take nb,Le lt y x):Rh lt a b (out.push x) na nb:=by
 unfold Rh at h ⊢
 rw [ny hx] at h
 rw [Array.toList_push]
 exact ML.left (u1:=[x]) h λy hy z hz=>by rw [aag.mp hy];exact hl z (aax.mp hz)
theorem uP {x:List Keyed} {k n:Nat} (h:k<=n):(x.take n).reverse=((x.drop k).take (n-k)).reverse++(x.take k).reverse:=by
 rw [<- List.reverse_append]
 congr 1
 rw [<- List.take_add,Nat.add_sub_cancel' h]
theorem Rh.manyA (h:Rh lt a b out na nb) (hk:k<=na) (hl:∀x∈(a.toList.drop k).take (na-k),∀y∈b.toList.take nb,Le lt y x):Rh lt a b (out++(a.extract k na).reverse) k nb:=by
 unfold Rh at h ⊢
 rw [aa3,Array.toList_reverse,dG]
 rw [uP hk] at h
 exact ML.left h λx hx y hy=>hl x (aax.mp hx) y (aax.mp hy)
theorem Rh.manyB (h:Rh lt a b out na nb) (hk:k<=nb) (hl:∀x∈(b.toList.drop k).take (nb-k),∀y∈a.toList.take na,Le lt y x):Rh lt a b (out++(b.extract k nb).reverse) na k:=by
 unfold Rh at h ⊢
 rw [aa3,Array.toList_reverse,dG]
 rw [uP hk] at h
 exact ML.right h λx hx y hy=>hl x (aax.mp hx) y (aax.mp hy)
theorem sT (h:GN lt) {x:Array Keyed} (p:x.toList.Pairwise (Le lt)) {i:Nat} {v:Keyed} (hv:x[i]? = some v):∀y∈x.toList.take i,Le lt y v:=λy hy=>by
 obtain ⟨j,hj,e⟩:=iZ (x:=x) (i:=0) (k:=i) (by simpa using hy)
 rw [aa6] at e
 exact kz p e v (rH hv hj)
end
open PySem PyProof.Rows
abbrev HS:=Option (Array Keyed)×Nat×Nat×Array Keyed×Nat×Nat×Nat
noncomputable def Fi (a b out:Array Keyed) (na nb mg ac bc:Nat):StateT SortSt Sem (ForInStep HS):=do
 let d <- elem' a (na-1)
 if (na-1==0)=true then pure (ForInStep.done (some (kh a b (out.push d) (na-1) nb),na-1,nb,out.push d,mg,ac,bc))
 else if (decide (ac<7)&&decide (bc<7))=true then pure (ForInStep.done (none,na-1,nb,out.push d,mg,ac,bc))
 else pure (ForInStep.yield (none,na-1,nb,out.push d,mg,ac,bc))
noncomputable def Fh (a b out:Array Keyed) (na nb mg ac bc:Nat):StateT SortSt Sem (ForInStep HS):=do
 let d <- elem' b (nb-1)
 if (nb-1==1)=true then pure (ForInStep.done (some (pk a b (out.push d) na (nb-1)),na,nb-1,out.push d,mg,ac,bc))
 else do
  let e <- elem' a (na-1)
  let x <- eW true e b 0 (nb-1) (nb-1-1)
  match x with
  | some t =>
   if nb-1-t>0 then
    if (t==1)=true then pure (ForInStep.done (some (pk a b (out.push d++(b.extract t (nb-1)).reverse) na t),na,t,out.push d++(b.extract t (nb-1)).reverse,mg,ac,nb-1-t))
    else if (t==0)=true then pure (ForInStep.done (some (kh a b (out.push d++(b.extract t (nb-1)).reverse) na t),na,t,out.push d++(b.extract t (nb-1)).reverse,mg,ac,nb-1-t))
    else Fi a b (out.push d++(b.extract t (nb-1)).reverse) na t mg ac (nb-1-t)
   else Fi a b (out.push d) na (nb-1) mg ac (nb-1-t)
  | _=>pure (ForInStep.done (some (kh a b (out.push d) na (nb-1)),na,nb-1,out.push d,mg,ac,bc))
noncomputable def Dv (a b out:Array Keyed) (na nb mg ac bc:Nat):StateT SortSt Sem (ForInStep HS):=do
 eG mg
 let d <- elem' b (nb-1)
 let x <- eW false d a 0 na (na-1)
 match x with
 | some t =>
  if na-t>0 then
   if (t==0)=true then pure (ForInStep.done (some (kh a b (out++(a.extract t na).reverse) t nb),t,nb,out++(a.extract t na).reverse,mg,na-t,bc))
   else Fh a b (out++(a.extract t na).reverse) t nb mg (na-t) bc
  else Fh a b out na nb mg (na-t) bc
 | _=>pure (ForInStep.done (some (kh a b out na nb),na,nb,out,mg,ac,bc))
abbrev AR (β:Type):=Option (Array Keyed)×Nat×Nat×Array Keyed×β
noncomputable def IC (a b:Array Keyed) (mg:Nat) (out:Array Keyed) (na nb ac bc:Nat):StateT SortSt Sem (ForInStep (AR (Nat×Nat))):=do
 let y <- elem' b (nb-1)
 let x <- elem' a (na-1)
 let r <- lt' y x
 match r with
 | some w =>
  if w=true then do
   let d <- elem' a (na-1)
   if (na-1==0)=true then pure (.done (some (kh a b (out.push d) (na-1) nb),na-1,nb,out.push d,ac+1,0))
   else if ac+1>=mg then pure (.done (none,na-1,nb,out.push d,ac+1,0)) else pure (.yield (none,na-1,nb,out.push d,ac+1,0))
  else do
   let d <- elem' b (nb-1)
   if (nb-1==1)=true then pure (.done (some (pk a b (out.push d) na (nb-1)),na,nb-1,out.push d,0,bc+1))
   else if bc+1>=mg then pure (.done (none,na,nb-1,out.push d,0,bc+1)) else pure (.yield (none,na,nb-1,out.push d,0,bc+1))
 | _=>pure (.done (some (kh a b out na nb),na,nb,out,ac,bc))
noncomputable def Hg (a b:Array Keyed) (c:HS):StateT SortSt Sem (ForInStep HS) :=
 if c.2.2.2.2.1>1 then Dv a b c.2.2.2.1 c.2.1 c.2.2.1 (c.2.2.2.2.1-1) c.2.2.2.2.2.1 c.2.2.2.2.2.2 else Dv a b c.2.2.2.1 c.2.1 c.2.2.1 c.2.2.2.2.1 c.2.2.2.2.2.1 c.2.2.2.2.2.2
noncomputable def Jj (c:HS):StateT SortSt Sem (ForInStep (AR Nat)) :=
 match c.1 with
 | some r=>pure (.done (some r,c.2.1,c.2.2.1,c.2.2.2.1,c.2.2.2.2.1))
 | none=>do
  eG (c.2.2.2.2.1+1)
  pure (.yield (none,c.2.1,c.2.2.1,c.2.2.2.1,c.2.2.2.2.1+1))
noncomputable def Ji (a b:Array Keyed) (mg:Nat) (c:AR (Nat×Nat)):StateT SortSt Sem (ForInStep (AR Nat)) :=
 match c.1 with
 | some r=>pure (.done (some r,c.2.1,c.2.2.1,c.2.2.2.1,mg))
 | none=>do
  rule "list.sort.gallop"
  let c2 <- forIn [0:a.size+b.size] ((none,c.2.1,c.2.2.1,c.2.2.2.1,mg+1,c.2.2.2.2.1,c.2.2.2.2.2):HS) (λ_=>Hg a b)
  Jj c2
noncomputable def JB (a b:Array Keyed) (c:AR Nat):StateT SortSt Sem (ForInStep (AR Nat)):=do
 let c1 <- forIn [0:a.size+b.size] ((none,c.2.1,c.2.2.1,c.2.2.2.1,0,0):AR (Nat×Nat)) (λ_ d=>IC a b c.2.2.2.2 d.2.2.2.1 d.2.1 d.2.2.1 d.2.2.2.2.1 d.2.2.2.2.2)
 Ji a b c.2.2.2.2 c1
noncomputable def Jz (c:AR Nat):StateT SortSt Sem (Array Keyed) :=
 match c.1 with
 | some r=>pure r
 | none=>unsupported "internal:list.sort.merge-bound"
noncomputable def JA (a b:Array Keyed) (d:Keyed):StateT SortSt Sem (Array Keyed) :=
 if (a.size-1==0)=true then pure (kh a b #[d] (a.size-1) b.size)
 else if (b.size==1)=true then pure (pk a b #[d] (a.size-1) b.size)
 else do
  let st <- get
  let c <- forIn [0:a.size+b.size] ((none,a.size-1,b.size,#[d],gallopOf st):AR Nat) (λ_=>JB a b)
  Jz c
theorem Am (a b:Array Keyed):tW a b=(do
 rule "list.sort.merge-hi"
 let d <- elem' a (a.size-1)
 JA a b d):=by kernel_rfl
section
variable {a b:Array Keyed}
variable (an:qg (model prog w) A E s lt ok κ) (p:IX lt ok a b) {st:SortSt} {K:ForInStep HS->SortSt->Prop} {B:Nat}
 (kR:∀r c st',jb st st'->qf lt (a.toList++b.toList) (Array.toList r)->c.1=some r->K (.done c) st')
 (kN:∀out na nb mg ac bc st',jb st st'->Rh lt a b out na nb->1<=na->na<=a.size->2<=nb->nb<=b.size->na+nb<=B->K (.done (none,na,nb,out,mg,ac,bc)) st'/\K (.yield (none,na,nb,out,mg,ac,bc)) st')
include an p kR kN
theorem zC {out:Array Keyed} {na nb mg ac bc:Nat} {st':SortSt} (S:jb st st') (h:Rh lt a b out (na+1) nb) (ha:na+1<=a.size) (hb2:2<=nb) (hb:nb<=b.size) {va:Keyed} (ea:a[na]? = some va) (hx:∀y∈b.toList.take nb,Le lt y va) (hB:na+nb<=B) :
  wpS (model prog w) A E s (Fi a b out (na+1) nb mg ac bc) K st':=by
 unfold Fi
 rw [Nat.add_sub_cancel]
 refine wpS_bind (bC ea ?_)
 have h':=h.pushA ea hx
 by_cases e:na=0
 ·rw [if_pos (beq_iff_eq.mpr e)]
  exact wpS_pure (kR _ _ _ S (h'.done (.inr e)) rfl)
 ·rw [if_neg (λh=>e (beq_iff_eq.mp h))]
  have:=kN (out.push va) na nb mg ac bc st' S h' ((aar e).elim (λy2=>bO 0x190090111 y2) (λy2=>bO 0x190009111 y2)) (aG 0x1001190c011 [_,_] rfl ha) hb2 hb hB
  split
  ·exact wpS_pure this.1
  ·exact wpS_pure this.2
theorem zB {out:Array Keyed} {na m mg ac bc:Nat} {st':SortSt} (hk:kindOf st=κ) (S:jb st st') (h:Rh lt a b out (na+1) (m+1)) (ha:na+1<=a.size) (hm:1<=m) (hb:m+1<=b.size) {vb:Keyed} (eb:b[m]? = some vb) (hx:∀y∈a.toList.take (na+1),Le lt y vb) (hB:na+m<=B) :
  wpS (model prog w) A E s (Fh a b out (na+1) (m+1) mg ac bc) K st':=by
 unfold Fh
 rw [Nat.add_sub_cancel]
 refine wpS_bind (bC eb ?_)
 have h':=h.pushB eb hx
 by_cases e:m=1
 ·rw [if_pos (beq_iff_eq.mpr e)]
  exact wpS_pure (kR _ _ _ S (h'.first p e) rfl)
 ·rw [if_neg (λh=>e (beq_iff_eq.mp h)),Nat.add_sub_cancel]
  obtain ⟨va,ea,ma⟩:=dP (x:=a) (i:=na) (by exact aG 0x1011190c011 [_,_] rfl ha)
  refine wpS_bind (bC ea (wpS_bind (EM an p.sb p.ob (p.oa _ ma) (S.k.trans hk) (by exact aG 0x1009c01190c011 [_,_] rfl hb) (by exact aG 0x1011190c211 [_,_] rfl (aaa hm)) λt htn h1 h2=> ?_)))
  rw [aa6] at h1 h2
  have many:∀x∈(b.toList.drop t).take (m-t),∀y∈a.toList.take (na+1),Le lt y x:=λx hx y hy=>by
   obtain ⟨j,hj,ej⟩:=iZ hx
   have hle:Le lt va x:=h2 _ _ (by exact aG 0x10c000 [_,_] rfl) (by exact aG 0x309c02c1321c2110112 [_,_,_,_] rfl hj (aaa htn)) ej
   rw [<- aax,ny ea] at hy
   rcases aah.mp hy with rfl | hy
   ·exact hle
   ·exact an.lin.trans (sT an.lin p.sa ea y (aax.mp hy)) hle
  have rest:∀y∈b.toList.take t,Le lt y va:=λy hy=>by
   obtain ⟨j,hj,ej⟩:=iZ (x:=b) (i:=0) (k:=t) (by simpa using hy)
   rw [aa6] at ej
   exact an.lin.of_lt (h1 j y (Nat.zero_le _) hj ej)
  dsimp only
  by_cases hk0:m-t>0
  ·rw [if_pos hk0]
   have h'':=h'.manyB htn many
   by_cases e2:t=1
   ·rw [if_pos (beq_iff_eq.mpr e2)]
    exact wpS_pure (kR _ _ _ S (h''.first p e2) rfl)
   ·rw [if_neg (λh=>e2 (beq_iff_eq.mp h))]
    by_cases e3:t=0
    ·rw [if_pos (beq_iff_eq.mpr e3)]
     exact wpS_pure (kR _ _ _ S (h''.done (.inl e3)) rfl)
    ·rw [if_neg (λh=>e3 (beq_iff_eq.mp h))]
     exact zC an p kR kN S h'' ha ((aar e2).elim (λy2=>(aar e3).elim (λy1=>bO 0x290090121 y1) (λy1=>bO 0x29000912190112 y2 y1)) (λy2=>bO 0x290019111 y2)) (by exact aG 0x12002011190c012 [_,_,_] rfl hb htn) ea rest (by exact aG 0x230c01301210c012 [_,_,_,_] rfl hB htn)
  ·rw [if_neg hk0]
   obtain rfl:t=m:=by exact aaf (htn) (aG 0x21020c101009512 [_,_,_] rfl hk0 (sA _ _))
   exact zC an p kR kN S h' ha ((aar e).elim (λy2=>bO 0x29019011019022 hm y2) (λy2=>bO 0x290019111 y2)) (by exact aG 0x1001190c011 [_,_] rfl hb) ea rest (by exact hB)
theorem EP {out:Array Keyed} {na m mg ac bc:Nat} {st':SortSt} (hk:kindOf st=κ) (S:jb st st') (h:Rh lt a b out na (m+1)) (ha1:1<=na) (ha:na<=a.size) (hm:1<=m) (hb:m+1<=b.size) (hB:na+m<=B+1) :
  wpS (model prog w) A E s (Dv a b out na (m+1) mg ac bc) K st':=by
 unfold Dv
 rw [dZ,Nat.add_sub_cancel]
 refine wpS_bind (wpS_modify ?_)
 have S':=S.gal mg
 obtain ⟨vb,eb,mb⟩:=dP (x:=b) (i:=m) (by exact aG 0x1011190c011 [_,_] rfl hb)
 refine wpS_bind (bC eb (wpS_bind (EL an p.sa p.oa (p.ob _ mb) (S'.k.trans hk) (by exact aG 0x1009c010011 [_,_] rfl ha) (by exact aG 0x1011190c211 [_,_] rfl (aaa ha1)) λt htn h1 h2=> ?_)))
 rw [aa6] at h1 h2
 have many:∀x∈(a.toList.drop t).take (na-t),∀y∈b.toList.take (m+1),Le lt y x:=λx hx y hy=>by
  obtain ⟨j,hj,ej⟩:=iZ hx
  have hlt:Le lt vb x:=an.lin.of_lt (h2 _ _ (by exact aG 0x10c000 [_,_] rfl) (by exact aG 0x309c02c1321c2110112 [_,_,_,_] rfl hj (aaa htn)) ej)
  rw [<- aax,ny eb] at hy
  rcases aah.mp hy with rfl | hy
  ·exact hlt
  ·exact an.lin.trans (sT an.lin p.sb eb y (aax.mp hy)) hlt
 have rest:∀y∈a.toList.take t,Le lt y vb:=λy hy=>by
  obtain ⟨j,hj,ej⟩:=iZ (x:=a) (i:=0) (k:=t) (by simpa using hy)
  rw [aa6] at ej
  exact h1 j y (Nat.zero_le _) hj ej
 dsimp only
 by_cases hk0:na-t>0
 ·rw [if_pos hk0]
  have h'':=h.manyA htn many
  by_cases e1:t=0
  ·rw [if_pos (beq_iff_eq.mpr e1)]
   exact wpS_pure (kR _ _ _ S' (h''.done (.inr e1)) rfl)
  ·rw [if_neg (λh=>e1 (beq_iff_eq.mp h))]
   obtain ⟨t',rfl⟩:∃t',t=t'+1:=⟨t-1,aaf ((sA _ _)) ((aar e1).elim (λy2=>bP 0x191c00101090112 y2 (Nat.sub_le _ _)) (λy2=>bP 0x1190c01190c211 (aaa (bO 0x190009111 y2))))⟩
   exact zB an p kR kN hk S' h'' (by exact aG 0x1192c00192c0110012 [_,_,_] rfl ha htn) hm hb eb rest (by exact aG 0x213c00193c01192c10c012 [_,_,_,_] rfl hB htn)
 ·rw [if_neg hk0]
  obtain rfl:t=na:=by exact aaf (htn) (aG 0x21020c101009512 [_,_,_] rfl hk0 (sA _ _))
  obtain ⟨t',rfl⟩:∃t',t=t'+1:=⟨t-1,by exact aaf ((sA _ _)) (aG 0x1190c01190c211 [_,_] rfl (aaa ha1))⟩
  exact zB an p kR kN hk S' h (by exact ha) hm hb eb rest (by exact aG 0x210c0192c1190cc011 [_,_,_] rfl hB)
end
section
variable {a b:Array Keyed}
structure Hv (lt:Keyed->Keyed->Bool) (a b:Array Keyed) (N x:Nat) (out:Array Keyed) (na nb:Nat):Prop where
 r:Rh lt a b out na nb
 a1:1<=na
 a2:na<=a.size
 b1:2<=nb
 b2:nb<=b.size
 s:x+(na+nb)<=N
def Iv {β:Type} (lt:Keyed->Keyed->Bool) (a b:Array Keyed) (N x:Nat) (c:AR β):Prop:=c.1=none/\Hv lt a b N x c.2.2.2.1 c.2.1 c.2.2.1
def Dn {β:Type} (lt:Keyed->Keyed->Bool) (a b:Array Keyed) (c:AR β):Prop:= ∃r,c.1=some r/\qf lt (a.toList++b.toList) r.toList
theorem Hv.no {N M na nb:Nat} {out:Array Keyed} (h:Hv lt a b N (max 0 M) out na nb) (hN:N<=M):False:=by
 haveI s:=h.s
 rw [Nat.zero_max] at s
 exact absurd (aam s hN) (Nat.not_le.mpr (Nat.lt_add_of_pos_right (aaX h.a1 (aaK _ _))))
section
variable (an:qg (model prog w) A E s lt ok κ) (p:IX lt ok a b) {st:SortSt} (hk:kindOf st=κ)
include an p hk
theorem EN {st':SortSt} (S:jb st st') {N x mg na nb ac bc:Nat} {out:Array Keyed} (h:Hv lt a b N x out na nb) {K:ForInStep (AR (Nat×Nat))->SortSt->Prop} (kD:∀c,Dn lt a b c\/Iv lt a b N 1 c->K (.done c) st') (kY:∀c,Iv lt a b N (x+1) c->K (.yield c) st') :
  wpS (model prog w) A E s (IC a b mg out na nb ac bc) K st':=by
 cases na with
 | zero=>exact absurd h.a1 ∅
 | succ na =>
 cases nb with
 | zero=>exact absurd h.b1 ∅
 | succ nb =>
 refine bS λY9 y9=> ?_
 obtain ⟨va,ea,ma⟩:=dP (x:=a) (i:=na) h.a2
 obtain ⟨vb,eb,mb⟩:=dP (x:=b) (i:=nb) h.b2
 refine y9 ?_
 have hs:=h.s
 refine wpS_bind (bC eb (wpS_bind (bC ea (wpS_bind (an.ask (p.ob _ mb) (p.oa _ ma) (S.k.trans hk) ?_)))))
 cases hl:lt vb va with
 | true =>
  refine fn rfl (wpS_bind (bC ea ?_))
  have h':=h.r.pushA ea λy hy=>by
   have hle:Le lt vb va:=an.lin.of_lt hl
   rw [<- aax,ny eb] at hy
   rcases aah.mp hy with rfl | hy
   ·exact hle
   ·exact an.lin.trans (sT an.lin p.sb eb y (aax.mp hy)) hle
  by_cases e:na=0
  ·exact fn (beq_iff_eq.mpr e) (wpS_pure (kD _ (.inl ⟨_,rfl,h'.done (.inr e)⟩)))
  ·have v:∀ {x'},x'+(na+(nb+1))<=N->Hv lt a b N x' (out.push va) na (nb+1):=λg=>⟨h',(aar e).elim (λy2=>bO 0x190090111 y2) (λy2=>bO 0x190009111 y2),Nat.le_of_lt h.a2,h.b1,h.b2,g⟩
   refine dM (λh=>e (beq_iff_eq.mp h)) ?_
   by_cases q:ac+1>=mg
   ·exact fn q (wpS_pure (kD _ (.inr ⟨rfl,v (aG 0x3192c1c19c03192c191cc0c011 [_,_,_,_] rfl hs)⟩)))
   ·exact dM q (wpS_pure (kY _ ⟨rfl,v (aG 0x3192c1c190cc03192c191cc0c011 [_,_,_,_] rfl hs)⟩))
 | false =>
  refine dM aa5 (wpS_bind (bC eb ?_))
  have h':=h.r.pushB eb λy hy=>by
   rw [<- aax,ny ea] at hy
   rcases aah.mp hy with rfl | hy
   ·exact hl
   ·exact an.lin.trans (sT an.lin p.sa ea y (aax.mp hy)) hl
  by_cases e:nb=1
  ·exact fn (beq_iff_eq.mpr e) (wpS_pure (kD _ (.inl ⟨_,rfl,h'.first p e⟩)))
  ·have v:∀ {x'},x'+(na+1+nb)<=N->Hv lt a b N x' (out.push vb) (na+1) nb:=λg=>⟨h',h.a1,h.a2,by haveI:=h.b1;exact (aar e).elim (λy2=>bO 0x29019011190c29022 this y2) (λy2=>bO 0x290019111 y2),Nat.le_of_lt h.b2,g⟩
   refine dM (λh=>e (beq_iff_eq.mp h)) ?_
   by_cases q:bc+1>=mg
   ·exact fn q (wpS_pure (kD _ (.inr ⟨rfl,v (aG 0x32191cc19c03192c191cc0c011 [_,_,_,_] rfl hs)⟩)))
   ·exact dM q (wpS_pure (kY _ ⟨rfl,v (aG 0x32191cc190cc03192c191cc0c011 [_,_,_,_] rfl hs)⟩))
theorem EO {st':SortSt} (S:jb st st') {N x:Nat} {c:HS} (h:Hv lt a b N x c.2.2.2.1 c.2.1 c.2.2.1) {K:ForInStep HS->SortSt->Prop} (kD:∀c st2,jb st st2->Dn lt a b c\/Iv lt a b N 0 c->K (.done c) st2) (kY:∀c st2,jb st st2->Iv lt a b N (x+1) c->K (.yield c) st2) :
  wpS (model prog w) A E s (Hg a b c) K st':=by
 have key:∀ {out:Array Keyed} {na nb:Nat} (mg ac bc:Nat),Hv lt a b N x out na nb->wpS (model prog w) A E s (Dv a b out na nb mg ac bc) K st':=by
  intro out na nb mg ac bc h
  cases nb with
  | zero=>exact absurd h.b1 ∅
  | succ m =>
  have hs:=h.s
  haveI h1:=h.a1
  exact EP an p (B:=na+m-1) (λr c st2 S' hr hc=>kD c st2 S' (.inl ⟨r,hc,hr⟩)) (λo i j mm u v st2 S' r1 r2 r3 r4 r5 r6=>⟨kD _ _ S' (.inr ⟨rfl,⟨r1,r2,r3,r4,r5,by dsimp only;exact aG 0x354c09c021c601654c013192c1c0c013 [_,_,_,_,_,_,_] rfl hs r6 (Nat.sub_le _ _)⟩⟩),kY _ _ S' ⟨rfl,⟨r1,r2,r3,r4,r5,by dsimp only;exact aG 0x354c190cc021c601654c013192c1c0c013 [_,_,_,_,_,_,_] rfl hs r6 (Nat.sub_le _ _)⟩⟩⟩) hk S h.r h.a1 h.a2 (Nat.le_of_succ_le_succ h.b1) h.b2 (sA _ _)
 unfold Hg
 by_cases hm:c.2.2.2.2.1>1
 ·exact fn hm (key _ _ _ h)
 ·exact dM hm (key _ _ _ h)
theorem F6 {st':SortSt} (S:jb st st') {x:Nat} {c:AR Nat} (h:Hv lt a b (a.size+b.size) x c.2.2.2.1 c.2.1 c.2.2.1) {K:ForInStep (AR Nat)->SortSt->Prop} (kD:∀c st2,jb st st2->Dn lt a b c->K (.done c) st2) (kY:∀c st2,jb st st2->Iv lt a b (a.size+b.size) (x+1) c->K (.yield c) st2) :
  wpS (model prog w) A E s (JB a b c) K st':=by
 have hs:=h.s
 have hN:c.2.1+c.2.2.1<=a.size+b.size:=aam (Nat.le_add_left _ _) hs
 refine wpS_bind (wpS_mono (wpS_forRange (I:=λx c1 st2=>st2=st'/\Iv lt a b (c.2.1+c.2.2.1) x c1) (Q:=λc1 st2=>st2=st'/\(Dn lt a b c1\/Iv lt a b (c.2.1+c.2.2.1) 1 c1)) ?_ (λ_ _ g=>(g.2.2.no hN).elim) ⟨rfl,rfl,⟨h.r,h.a1,h.a2,h.b1,h.b2,Nat.le_of_eq (aa6 _)⟩⟩) λc1 st2 g=> ?_)
 ·rintro y d _ _ _ ⟨rfl,g⟩
  exact EN an p hk S g.2 (λ_ q=>⟨rfl,q⟩) λ_ q=>⟨rfl,q⟩
 rw [g.1]
 rcases g.2 with ⟨r,e,hr⟩ | ⟨e,v⟩
 ·unfold Ji;rw [e];exact wpS_pure (kD _ _ S ⟨r,rfl,hr⟩)
 unfold Ji;rw [e]
 have hs2:=v.s
 haveI hN2:c1.2.1+c1.2.2.1<=a.size+b.size:=aG 0x32c54c010c54c19c0132c10c012 [_,_,_,_,_,_] rfl hN hs2
 refine wpS_bind (wpS_lift (wpAny_rule ⟨rfl,?_⟩))
 refine wpS_bind (wpS_mono (wpS_forRange (I:=λx d st3=>jb st st3/\Iv lt a b (c1.2.1+c1.2.2.1) x d) (Q:=λd st3=>jb st st3/\(Dn lt a b d\/Iv lt a b (c1.2.1+c1.2.2.1) 0 d)) ?_ (λ_ _ g=>(g.2.2.no hN2).elim) ⟨S,rfl,⟨v.r,v.a1,v.a2,v.b1,v.b2,Nat.le_of_eq (aa6 _)⟩⟩) λd st3 g=> ?_)
 ·exact λy d st3 _ _ g=>EO an p hk g.1 g.2.2 (λ_ _ S q=>⟨S,q⟩) λ_ _ S q=>⟨S,q⟩
 rcases g.2 with ⟨r,e,hr⟩ | ⟨e,u⟩
 ·unfold Jj;rw [e];exact wpS_pure (kD _ _ g.1 ⟨r,rfl,hr⟩)
 ·haveI hs3:=u.s
  unfold Jj;rw [e,dZ]
  exact wpS_bind (wpS_modify (wpS_pure (kY _ _ (g.1.gal _) ⟨rfl,⟨u.r,u.a1,u.a2,u.b1,u.b2,by dsimp only;exact aG 0x43c087c190cc065c087c09c0121c65c19c0143c21c0c013 [_,_,_,_,_,_,_,_,_] rfl hs hs2 hs3⟩⟩)))
end
theorem zG (an:qg (model prog w) A E s lt ok κ) (p:IX lt ok a b) {st:SortSt} (hk:kindOf st=κ) (hlast:∀x,a[a.size-1]? = some x-> ∀y∈b.toList,Le lt y x) (ha:1<=a.size) (hb:1<=b.size) {Q:Array Keyed->SortSt->Prop}
  (hQ:∀r st',jb st st'->qf lt (a.toList++b.toList) r.toList->Q r st'):wpS (model prog w) A E s (tW a b) Q st:=by
 refine bS λY9 y9=> ?_
 refine bH (a.size-1) λn en=> ?_
 have en':a.size=n+1:=by rw [<- en,aaa ha]
 rw [en] at hlast
 obtain ⟨va,ea,ma⟩:=dP (x:=a) (i:=n) (Nat.le_of_eq en'.symm)
 refine y9 ?_
 have R0:Rh lt a b #[va] n b.size:=by
  haveI R00:Rh lt a b #[] (n+1) b.size:=by
   unfold Rh
   rw [List.take_of_length_le (by rw [aa2,en'];exact aaL _),List.take_of_length_le (by rw [aa2];exact aaL _)]
   exact ⟨.nil,List.pairwise_reverse.mpr p.sa,List.pairwise_reverse.mpr p.sb,λ_ h=>(nomatch h),λ_ h=>(nomatch h),(List.reverse_perm _).append (List.reverse_perm _)⟩
  exact R00.pushA ea λy hy=>hlast va ea y (List.mem_of_mem_take hy)
 rw [Am,en]
 refine wpS_bind (wpS_lift (wpAny_rule ⟨rfl,wpS_bind (bC ea ?_)⟩))
 unfold JA;rw [en]
 by_cases e1:n=0
 ·exact fn (beq_iff_eq.mpr e1) (wpS_pure (hQ _ _ (jb.refl _) (R0.done (.inr e1))))
 refine dM (λh=>e1 (beq_iff_eq.mp h)) ?_
 by_cases e2:b.size=1
 ·exact fn (beq_iff_eq.mpr e2) (wpS_pure (hQ _ _ (jb.refl _) (R0.first p e2)))
 refine dM (λh=>e2 (beq_iff_eq.mp h)) (wpS_bind (wpS_get (wpS_bind (wpS_mono (wpS_forRange (I:=λx c st'=>jb st st'/\Iv lt a b (a.size+b.size) x c) (Q:=λc st'=>jb st st'/\Dn lt a b c) ?_ (λ_ _ g=>(g.2.2.no (aaL _)).elim) ⟨jb.refl _,rfl,⟨R0,by dsimp only;exact (aar e1).elim (λy2=>bO 0x190090111 y2) (λy2=>bO 0x190009111 y2),by dsimp only;exact aG 0x10191c0311 [_,_] rfl en',by dsimp only;exact (aar e2).elim (λy2=>bO 0x29019011019022 hb y2) (λy2=>bO 0x290019111 y2),aaL _,by dsimp only;exact aG 0x20c21c09c0191c0311 [_,_,_] rfl en'⟩⟩) λc st' g=> ?_))))
 ·exact λx c st' _ _ g=>F6 an p hk g.1 g.2.2 (λ_ _ S q=>⟨S,q⟩) λ_ _ S q=>⟨S,q⟩
 ·refine bS λY9 y9=> ?_
  obtain ⟨S,r,e,hr⟩:=g
  refine y9 ?_
  unfold Jz;rw [e];exact wpS_pure (hQ r _ S hr)
end
open PySem PyProof.Rows
theorem yQ (i:Nat):mergeAt' i=(do
 let s <- get
 let (some (sa,na,power),some (sb,nb,_)):=((pendingOf s)[i]?,(pendingOf s)[i+1]?) | unsupported "internal:list.sort.pending"
 set (setPending s (((pendingOf s).setIfInBounds i (sa,na+nb,power)).eraseIdxIfInBounds (i+1)))
 let some k <- eW false (<- elem' (arrOf s) sb) (arrOf s) sa na 0 | return false
 let (sa,na):=(sa+k,na-k)
 if na==0 then return true
 let some nb <- eW true (<- elem' (arrOf s) (sa+na-1)) (arrOf s) sb nb (nb-1) | return false
 if nb==0 then return true
 let x:=(arrOf s).extract sa sb
 let y:=(arrOf s).extract sb (sb+nb)
 let merged <- if na<=nb then tX x y else tW x y
 modify λs=>setArr s (merged.toList.zipIdx.foldl (λa (p,j)=>a.setIfInBounds (sa+j) p) (arrOf s))
 return (failedOf (<- get)).isNone):=rfl
section
theorem mH {u:List Keyed} {k:Nat} {x:Keyed} (h:x∈u.take k):∃j,j<k/\u[j]? = some x:=by
 obtain ⟨j,hj,e⟩:=List.getElem_of_mem h
 rw [List.length_take] at hj
 refine ⟨j,aG 0x201210110112 [_,_,_] rfl hj (Nat.min_le_left _ _),?_⟩
 rw [List.getElem_take] at e
 rw [<- e];exact aao _
theorem jj {u:List Keyed} {k:Nat} {x:Keyed} (h:x∈u.drop k):∃j,A3 (k<=j) (j<u.length) (u[j]? = some x):=by
 obtain ⟨j,hj,e⟩:=List.getElem_of_mem h
 rw [List.length_drop] at hj
 refine ⟨k+j,aG 0x10c000 [_,_] rfl,by rw [Nat.add_comm];exact Nat.add_lt_of_lt_sub hj,?_⟩
 rw [List.getElem_drop] at e
 rw [<- e];exact aao _
theorem y6 {u:List Keyed} (p:u.Pairwise (Le lt)) {i j:Nat} {x y:Keyed} (hij:i<=j) (hx:u[i]? = some x) (hy:u[j]? = some y):i=j\/Le lt x y:=by
 obtain ⟨h1,e1⟩:=aab.mp hx
 obtain ⟨h2,e2⟩:=aab.mp hy
 rcases Nat.lt_or_ge i j with h | h
 ·exact .inr (e1▸e2▸List.pairwise_iff_getElem.mp p i j h1 h2 h)
 ·exact .inl (aaf (hij) (h))
theorem ut {arr:Array Keyed} {P u R:List Keyed} (e:arr.toList=P++(u++R)) {j:Nat} (hj:j<u.length):arr[P.length+j]? = u[j]? := by
 rw [<- aaA,e,aaq (aaK _ _),aaF,aaw hj]
theorem F4 (an:qg (model prog w) A E s lt ok κ) {arr:Array Keyed} {P u R:List Keyed} (e:arr.toList=P++(u++R)) (su:u.Pairwise (Le lt)) (ou:∀x∈u,ok x) {key:Keyed} (okk:ok key) {st:SortSt} (hk:kindOf st=κ) {hint:Nat} (hh:hint<u.length) {Q:Option Nat->SortSt->Prop}
  (hQ:∀k,k<=u.length->(∀x∈u.take k,Le lt x key)->(∀x∈u.drop k,lt key x=true)->Q (some k) st):wpS (model prog w) A E s (eW false key arr P.length u.length hint) Q st:=by
 have hf:∀j,j<u.length->u[j]? = some ((u[j]?).getD key)/\ok ((u[j]?).getD key):=λj hj=>by
  rw [aao hj];exact ⟨rfl,ou _ (List.getElem_mem _)⟩
 refine lu an (f:=λj=>(u[j]?).getD key) hk okk (λj hj=>⟨(ut e hj).trans (hf j hj).1,(hf j hj).2⟩) hh (λj l hjl hl hb=> ?_) λk hkn h1 h2=>hQ k hkn (λx hx=> ?_) λx hx=> ?_
 ·have hb':(!lt key ((u[l]?).getD key))=true:=hb
  show (!lt key ((u[j]?).getD key))=true
  rcases y6 su hjl (hf j (aG 0x201211110012 [_,_,_] rfl hjl hl)).1 (hf l hl).1 with h | h
  ·rw [h];exact hb'
  ·rw [Bool.not_eq_true'] at hb' ⊢
   exact an.lin.trans h hb'
 ·obtain ⟨j,hj,ej⟩:=mH hx
  haveI:=h1 j hj
  rw [ej] at this
  haveI:(!lt key x)=true:=this
  rw [Bool.not_eq_true'] at this;exact this
 ·obtain ⟨j,hj,hj2,ej⟩:=jj hx
  haveI:=h2 j hj hj2
  rw [ej] at this
  haveI:(!lt key x)=false:=this
  rw [Bool.not_eq_false'] at this;exact this
theorem F5 (an:qg (model prog w) A E s lt ok κ) {arr:Array Keyed} {P u R:List Keyed} (e:arr.toList=P++(u++R)) (su:u.Pairwise (Le lt)) (ou:∀x∈u,ok x) {key:Keyed} (okk:ok key) {st:SortSt} (hk:kindOf st=κ) {hint:Nat} (hh:hint<u.length) {Q:Option Nat->SortSt->Prop}
  (hQ:∀k,k<=u.length->(∀x∈u.take k,lt x key=true)->(∀x∈u.drop k,Le lt key x)->Q (some k) st):wpS (model prog w) A E s (eW true key arr P.length u.length hint) Q st:=by
 have hf:∀j,j<u.length->u[j]? = some ((u[j]?).getD key)/\ok ((u[j]?).getD key):=λj hj=>by
  rw [aao hj];exact ⟨rfl,ou _ (List.getElem_mem _)⟩
 refine lu an (f:=λj=>(u[j]?).getD key) hk okk (λj hj=>⟨(ut e hj).trans (hf j hj).1,(hf j hj).2⟩) hh (λj l hjl hl hb=> ?_) λk hkn h1 h2=>hQ k hkn (λx hx=> ?_) λx hx=> ?_
 ·have hb':lt ((u[l]?).getD key) key=true:=hb
  show lt ((u[j]?).getD key) key=true
  rcases y6 su hjl (hf j (aG 0x201211110012 [_,_,_] rfl hjl hl)).1 (hf l hl).1 with h | h
  ·rw [h];exact hb'
  ·cases e:lt ((u[j]?).getD key) key with
   | true=>rfl
   | false =>
    have:=an.lin.ntr h e
    rw [hb'] at this;cases this
 ·obtain ⟨j,hj,ej⟩:=mH hx
  haveI:=h1 j hj
  rw [ej] at this
  exact this
 ·obtain ⟨j,hj,hj2,ej⟩:=jj hx
  haveI:=h2 j hj hj2
  rw [ej] at this
  exact this
theorem rI:∀(c:List Keyed) (n o:Nat) (arr:Array Keyed) (P D R:List Keyed),arr.toList=P++(D++R)->D.length=c.length->n+o=P.length->((c.zipIdx o).foldl (λa (p:Keyed×Nat)=>a.setIfInBounds (n+p.2) p.1) arr).toList=P++(c++R)
 | [],n,o,arr,P,D,R,e,hd,hn=>by
  rw [List.length_eq_zero_iff.mp hd] at e;exact e
 | x::c,n,o,arr,P,D,R,e,hd,hn=>by
  cases D with
  | nil=>cases hd
  | cons d D =>
   rw [List.zipIdx_cons,List.foldl_cons]
   haveI e':(arr.setIfInBounds (n+o) x).toList=(P++[x])++(D++R):=by
    rw [Array.toList_setIfInBounds,e,hn,List.set_append_right _ _ (aaL _),Nat.sub_self,aad];rfl
   haveI:=rI c n (o+1) (arr.setIfInBounds (n+o) x) (P++[x]) D R e' (by simpa using hd) (by rw [aac,<- Nat.add_assoc,hn];rfl)
   rw [aad] at this
   exact this
theorem F8 {σ:Type} {x:σ} {Q:PUnit->σ->Prop} {st:σ} (h:Q ⟨⟩ x):wpS M A E s (set x:StateT σ Sem PUnit) Q st:=by
 unfold wpS;rw [StateT.run_set];exact wpAny_pure ⟨rfl,h⟩
theorem Ff {arr:Array Keyed} {P u R:List Keyed} (e:arr.toList=P++(u++R)) (k:Nat) (hk:k<=u.length):(arr.extract (P.length+k) (P.length+u.length)).toList=u.drop k:=by
 rw [dG,e,List.drop_append,List.drop_eq_nil_of_le (aaK _ _),List.nil_append,aaF,List.drop_append_of_le_length hk,List.take_append_of_le_length (by rw [List.length_drop];exact aG 0x40024c30131c21c0c212 [_,_,_,_,_] rfl (aaa (aG 0x12c02c010011 [_,_,_] rfl hk)) (sA _ _))]
 exact List.take_of_length_le (by rw [List.length_drop];exact aG 0x40013c4c23c01210c212 [_,_,_,_,_] rfl (aaa hk) (sA _ _))
theorem Dq {arr:Array Keyed} {P v R:List Keyed} (e:arr.toList=P++(v++R)) (m:Nat) (hm:m<=v.length):(arr.extract P.length (P.length+m)).toList=v.take m:=by
 rw [dG,e,List.drop_left,aaF,List.take_append_of_le_length hm]
theorem zF (an:qg (model prog w) A E s lt ok κ) {st:SortSt} (hk:kindOf st=κ) (hfail:failedOf st=none) {p1 p2:List (Nat×Nat×Nat)} {P u v R:List Keyed} {pw pw2:Nat}
  (hp:(pendingOf st).toList=p1++(P.length,u.length,pw)::(P.length+u.length,v.length,pw2)::p2) (he:(arrOf st).toList=P++(u++(v++R))) (su:u.Pairwise (Le lt)) (sv:v.Pairwise (Le lt)) (ou:∀x∈u,ok x) (ov:∀x∈v,ok x) (hu:1<=u.length) (hv:1<=v.length)
  {Q:Bool->SortSt->Prop} (hQ:∀c (st':SortSt),kindOf st'=κ->failedOf st'=none->(pendingOf st').toList=p1++(P.length,u.length+v.length,pw)::p2->(arrOf st').toList=P++(c++R)->qf lt (u++v) c->Q true st') :
  wpS (model prog w) A E s (mergeAt' p1.length) Q st:=by
 rw [yQ]
 refine wpS_bind (wpS_get ?_)
 haveI g1:(pendingOf st)[p1.length]? = some (P.length,u.length,pw):=by rw [<- aaA,hp,aaq (aaL _),Nat.sub_self];rfl
 have g2:(pendingOf st)[p1.length+1]? = some (P.length+u.length,v.length,pw2):=by rw [<- aaA,hp,aaq (aaK _ _),aaF];rfl
 rw [g1,g2]
 dsimp only
 refine wpS_bind (F8 ?_)
 refine bH (setPending st (((pendingOf st).setIfInBounds p1.length (P.length,u.length+v.length,pw)).eraseIdxIfInBounds (p1.length+1))) λst1 e1=> ?_
 have hp1:(pendingOf st1).toList=p1++(P.length,u.length+v.length,pw)::p2:=by
  rw [<- e1]
  show (((pendingOf st).setIfInBounds p1.length (P.length,u.length+v.length,pw)).eraseIdxIfInBounds (p1.length+1)).toList=_
  rw [Array.toList_eraseIdxIfInBounds,Array.toList_setIfInBounds,hp,List.set_append_right _ _ (aaL _),Nat.sub_self,List.eraseIdx_append_of_length_le (aaK _ _),aaF];rfl
 have k1:kindOf st1=κ:=by rw [<- e1];exact hk
 have a1:arrOf st1=arrOf st:=by rw [<- e1]
 have f1:failedOf st1=none:=by rw [<- e1];exact hfail
 rw [e1]
 have he2:(arrOf st).toList=(P++u)++(v++R):=by rw [he,aad]
 obtain ⟨v0,vt,ev⟩:∃v0 vt,v=v0::vt:=by
  cases v with
  | nil=>simp at hv
  | cons a b=>exact ⟨a,b,rfl⟩
 have x0:(arrOf st)[P.length+u.length]? = some v0:=by
  haveI:=ut he2 (j:=0) (aG 0x91019011 [_] rfl hv)
  rw [aac,Nat.add_zero] at this
  rw [this,ev];rfl
 have o0:ok v0:=ov v0 (by rw [ev];exact .head _)
 have v0le:∀y∈v,y=v0\/Le lt v0 y:=λy hy=>by
  rw [ev] at hy sv
  rcases aah.mp hy with h | h
  ·exact .inl h
  ·exact .inr ((aaJ.mp sv).1 y h)
 refine wpS_bind (bC x0 (wpS_bind (F4 an he su ou o0 k1 (aG 0x91019011 [_] rfl hu) λk hku h1 h2=> ?_)))
 dsimp only
 have u1v:∀x∈u.take k,∀y∈v,Le lt x y:=λx hx y hy=>by
  rcases v0le y hy with rfl | h
  ·exact h1 x hx
  ·exact an.lin.trans (h1 x hx) h
 have gZ:∀ {c:List Keyed},qf lt (u++v) c->(arrOf st).toList=P++(c++R)->Q true st1:=λhc hca=>hQ _ st1 k1 f1 hp1 (by rw [a1];exact hca) hc
 by_cases hz:u.length-k=0
 ·rw [if_pos (beq_iff_eq.mpr hz)]
  haveI:u.take k=u:=List.take_of_length_le (aG 0x21020c101090212 [_,_,_] rfl hz (sA _ _))
  rw [this] at u1v
  exact wpS_pure (gZ ⟨aap.mpr ⟨su,sv,u1v⟩,.refl _⟩ (by rw [he,aad]))
 rw [if_neg (λh=>hz (beq_iff_eq.mp h))]
 obtain ⟨ul,eul⟩:∃ul,u[u.length-1]? = some ul:=⟨_,aao (aG 0x1011190c211 [_,_] rfl (aaa hu))⟩
 have xl:(arrOf st)[P.length+k+(u.length-k)-1]? = some ul:=by
  haveI:=ut he (j:=u.length-1) (aG 0x1011190c211 [_,_] rfl (aaa hu))
  rw [show P.length+k+(u.length-k)-1=P.length+(u.length-1) from aaf ((aar hz).elim (λy2=>fi [_,_,_,_,_,_] [] 0x54c30195c101204cc3010921110014 hku y2 (Nat.sub_le _ _) (sA _ _)) (λy2=>fi [_,_,_,_,_,_] [] 0x51c00195c401423c21321cc190c213 (aaa (lZ 0x21cc190009111 y2)) (aaa hku) (sA _ _))) (fi [_,_,_,_,_,_] [] 0x350c04195c2112c401193c210cc013 (sA _ _) (sA _ _) (aaa hu)),this,eul]
 have oul:ok ul:=ou ul (aaI eul)
 have ule:∀x∈u,x=ul\/Le lt x ul:=λx hx=>by
  obtain ⟨j,hj,e⟩:=List.getElem_of_mem hx
  rcases y6 su (show j<=u.length-1 from aG 0x200192c10110112 [_,_,_] rfl hj (sA _ _)) (e▸aao hj) eul with h | h
  ·subst h
   rw [aao hj,e] at eul
   exact .inl (Option.some.inj eul)
  ·exact .inr h
 have gt:=λ{Q}=>F5 (Q:=Q) an he2 sv ov oul k1 (hint:=v.length-1) (aG 0x1011190c211 [_,_] rfl (aaa hv))
 rw [aac] at gt
 refine wpS_bind (bC xl (wpS_bind (gt λm hmv h3 h4=> ?_)))
 dsimp only
 have uv2:∀x∈u,∀y∈v.drop m,Le lt x y:=λx hx y hy=>by
  rcases ule x hx with rfl | h
  ·exact h4 y hy
  ·exact an.lin.trans h (h4 y hy)
 by_cases hm:m=0
 ·rw [if_pos (beq_iff_eq.mpr hm)]
  subst hm
  exact wpS_pure (gZ ⟨aap.mpr ⟨su,sv,uv2⟩,.refl _⟩ (by rw [he,aad]))
 rw [if_neg (λh=>hm (beq_iff_eq.mp h))]
 have ex:=Ff he k hku
 have ey:=Dq he2 m hmv
 rw [aac] at ey
 refine bH ((arrOf st).extract (P.length+k) (P.length+u.length)) λx hxe=> ?_
 refine bH ((arrOf st).extract (P.length+u.length) (P.length+u.length+m)) λy hye=> ?_
 rw [hxe] at ex ⊢
 rw [hye] at ey ⊢
 have sx:x.size=u.length-k:=by rw [<- aa2,ex,List.length_drop]
 have sy:y.size=m:=by rw [<- aa2,ey,List.length_take];exact Nat.min_eq_left hmv
 have sux:x.toList.Pairwise (Le lt):=by rw [ex];exact su.drop
 have svy:y.toList.Pairwise (Le lt):=by rw [ey];exact sv.take
 have ox:∀z∈x.toList,ok z:=λz hz=>ou z (List.mem_of_mem_drop (ex▸hz))
 have oy:∀z∈y.toList,ok z:=λz hz=>ov z (List.mem_of_mem_take (ey▸hz))
 have ylt:∀z∈y.toList,lt z ul=true:=λz hz=>h3 z (ey▸hz)
 have after:∀(r:Array Keyed) (st':SortSt),jb st1 st'->qf lt (x.toList++y.toList) r.toList->wpS (model prog w) A E s (do
   modify λs=>setArr s (r.toList.zipIdx.foldl (λa (p,j)=>a.setIfInBounds (P.length+k+j) p) (arrOf s))
   return (failedOf (<- get)).isNone) Q st':=λr st' S hr=>by
  refine wpS_bind (wpS_modify (wpS_bind (wpS_get (wpS_pure ?_))))
  show Q (failedOf st').isNone (setArr st' _)
  rw [S.f,f1]
  haveI hlen:(u.drop k++v.take m).length=r.toList.length:=by rw [hr.2.length_eq,ex,ey]
  haveI earr:(arrOf st').toList=(P++u.take k)++((u.drop k++v.take m)++(v.drop m++R)):=by
   rw [S.a,a1,he]
   haveI e1:u.take k++u.drop k=u:=aa0 k u
   haveI e2:v.take m++v.drop m=v:=aa0 m v
   calc P++(u++(v++R))=P++((u.take k++u.drop k)++((v.take m++v.drop m)++R)):=by rw [e1,e2]
    _=_:=by simp only [aad]
  haveI eo:=rI r.toList (P.length+k) 0 (arrOf st') (P++u.take k) (u.drop k++v.take m) (v.drop m++R) earr hlen (by rw [aac,List.length_take,Nat.min_eq_left hku];rfl)
  refine hQ (u.take k++(r.toList++v.drop m)) _ (S.k.trans k1) (S.f.trans f1) ?_ ?_ ⟨?_,?_⟩
  ·show (pendingOf st').toList=_
   rw [S.p];exact hp1
  ·refine Eq.trans eo ?_
   simp only [aad]
  ·have mem:∀z∈r.toList,z∈u.drop k\/z∈v.take m:=λz hz=>by
    haveI:=hr.2.mem_iff.mp hz
    rw [ex,ey] at this
    exact aan.mp this
   haveI su':(u.take k++u.drop k).Pairwise (Le lt):=by rw [aa0];exact su
   haveI sv':(v.take m++v.drop m).Pairwise (Le lt):=by rw [aa0];exact sv
   refine aap.mpr ⟨su.take,aap.mpr ⟨hr.1,sv.drop,λz hz q hq=> ?_⟩,λz hz q hq=> ?_⟩
   ·rcases mem z hz with h | h
    ·exact uv2 z (List.mem_of_mem_drop h) q hq
    ·exact (aap.mp sv').2.2 z h q hq
   ·rcases aan.mp hq with h | h
    ·rcases mem q h with h | h
     ·exact (aap.mp su').2.2 z hz q h
     ·exact u1v z hz q (List.mem_of_mem_take h)
    ·exact u1v z hz q (List.mem_of_mem_drop h)
  ·haveI hp':=hr.2
   rw [ex,ey] at hp'
   refine ((hp'.append_right (v.drop m)).append_left (u.take k)).trans ?_
   haveI e1:u.take k++u.drop k=u:=aa0 k u
   haveI e2:v.take m++v.drop m=v:=aa0 m v
   refine List.Perm.of_eq ?_
   calc u.take k++(u.drop k++v.take m++v.drop m)=(u.take k++u.drop k)++(v.take m++v.drop m):=by simp only [aad]
    _=_:=by rw [e1,e2]
 by_cases hle:u.length-k<=m
 ·rw [if_pos hle]
  refine wpS_bind (zH an ⟨sux,svy,ox,oy,λz hz q hq=> ?_⟩ k1 (λz q hz hq=> ?_) ((aar hz).elim (λy2=>bP 0x1190090111 y2) (λy2=>bP 0x1901091110312 sx y2)) ((aar hm).elim (λy2=>bP 0x1190090111 y2) (λy2=>bP 0x1901091110312 sy y2)) after)
  ·rw [ex,sx,List.drop_drop] at hq
   obtain ⟨j,hj,hj2,ej⟩:=jj hq
   obtain rfl:j=u.length-1:=aaf (aG 0x200192c10110112 [_,_,_] rfl hj2 (sA _ _)) (aG 0x230191c50105c4014193c21210c014 [_,_,_,_,_,_] rfl hj (aaa hu) (sA _ _) (sA _ _))
   rw [eul] at ej;cases ej
   exact an.lin.of_lt (ylt z hz)
  ·rw [<- aaA,ey,List.getElem?_take_of_lt (by exact (aar hm).elim (λy2=>bO 0x91090111 y2) (λy2=>y2)),ev] at hz
   cases hz
   refine h2 q ?_
   rw [<- aaA,ex] at hq
   exact aaI hq
 ·rw [if_neg hle]
  refine wpS_bind (zG an ⟨sux,svy,ox,oy,λz hz q hq=> ?_⟩ k1 (λz hz q hq=> ?_) (aG 0x190214110312 [_,_,_] rfl sx hle) ((aar hm).elim (λy2=>bP 0x1190090111 y2) (λy2=>bP 0x1901091110312 sy y2)) after)
  ·rw [ey] at hz
   haveI hz':z∈v.take 1:=by
    rw [List.take_take] at hz
    rwa [Nat.min_eq_left (by exact (aar hm).elim (λy2=>bO 0x190090111 y2) (λy2=>bO 0x190009111 y2))] at hz
   rw [ev] at hz'
   rw [aag.mp hz']
   exact an.lin.of_lt (h2 q (ex▸hq))
  ·rw [<- aaA,ex,sx,List.getElem?_drop,show k+(u.length-k-1)=u.length-1 from aaf (aG 0x402c0194c301321c211190c213 [_,_,_,_,_] rfl (aaa (aG 0x19010411 [_,_] rfl hle)) (aaa hku) (sA _ _)) (aG 0x13c402194c2130c201191c0013 [_,_,_,_,_] rfl (sA _ _) (sA _ _) (aaa hu)),eul] at hz
   cases hz
   exact an.lin.of_lt (ylt q hq)
end
open PySem PyProof.Rows
theorem Iu {l r:Nat} (h:¬l>=r):l<=(l+r)/2/\(l+r)/2+1<=r :=
 have h:=Nat.lt_of_not_le h
 ⟨(Nat.le_div_iff_mul_le ∅).mpr (aam (Nat.le_of_eq (Nat.mul_two l)) (Nat.add_le_add_left (Nat.le_of_lt h) l)),(Nat.div_lt_iff_lt_mul ∅).mpr (Nat.lt_of_lt_of_eq (Nat.add_lt_add_right h r) (Nat.mul_two r).symm)⟩
theorem Jd {l r k i:Nat} (h:¬l>=r) (m:r-l<=k-i):(l+r)/2-l<=k-(i+1)/\r-((l+r)/2+1)<=k-(i+1) :=
 have b:=Iu h
 ⟨Nat.le_sub_one_of_lt (aaX (Nat.sub_lt_sub_right b.1 b.2) m),Nat.le_sub_one_of_lt (aaX (Nat.sub_lt_sub_left (Nat.lt_of_not_le h) (Nat.lt_succ_of_le b.1)) m)⟩
theorem Da {arr:Array Keyed} {P s t R:List Keyed} {x:Keyed} (e:arr.toList=P++((s++t)++(x::R))):(bubble arr (P.length+(s++t).length) t.length).toList=P++((s++x::t)++R):=by
 haveI hsz:P.length+(s++t).length<arr.size:=by rw [<- aa2,e];simp only [aac,aau];exact aG 0x193c21cc0c21c0c10 [_,_,_,_] rfl
 apply List.ext_getElem?
 intro k
 rw [aaA,getElem?_bubble hsz _ (by rw [aac];exact aG 0x2c1c000 [_,_,_] rfl) k]
 simp only [<- aaA,e,aac]
 by_cases h1:k<P.length
 ·rw [if_neg (by exact λhz=>aG 0x909642c43c1c01203110113 [_,_,_,_,_] rfl h1 hz (sA _ _)),if_neg (λq=>yU 0x909642c43c1c01021110113 h1 q.1 (sA _ _)),aaw h1,aaw h1]
 ·obtain ⟨j,rfl⟩:∃j,k=P.length+j:=⟨k-P.length,aaf (aG 0x12c0021c0011 [_,_,_] rfl (sA _ _)) (aG 0x201c0210c211 [_,_,_] rfl (aaa (aG 0x1010511 [_,_] rfl h1)))⟩
  have ap:∀(l:List Keyed) (i:Nat),(P++l)[P.length+i]? = l[i]? := λl i=>by rw [aaq (aaK _ _),aaF]
  rw [ap ((s++x::t)++R) j]
  by_cases h2:j=s.length
  ·subst h2
   rw [if_pos (by exact aaf (aG 0x310c023c21c0c011 [_,_,_,_] rfl (sA _ _)) (aG 0x32c0013c2c10c211 [_,_,_,_] rfl (aaa (aG 0x2c1c000 [_,_,_] rfl)))),ap,aad,aad,aaq (by exact aG 0x10c000 [_,_] rfl),aaq (by exact aG 0x21002c10c011 [_,_,_] rfl (sA _ _)),aaq (by exact aG 0x0 [_] rfl)]
   rw [show s.length+t.length-s.length-t.length=0 from aaf ((Nat.le_total _ _).elim (λy2=>vd 0x90013c32c21210c212 (aaa y2) (aaa (bP 0x10c000))) (λy2=>bO 0x900090211 (aaZ y2))) (bO 0x900),Nat.sub_self];rfl
  ·rw [if_neg (by exact λx9=>(aar h2).elim (λy2=>yU 0x909642c43c0c013111210c313 x9 y2 (sA _ _)) (λy2=>yU 0x909643c0c42c211311210c213 x9 y2 (aaa (lZ 0x2c1c000))))]
   by_cases h3:s.length<j/\j<=s.length+t.length
   ·rw [if_pos (by exact ⟨yU 0x14c2130c4c32c2110112 h3.1 (aaa (lZ 0x2c1c000)),vd 0x21c3c03c021c0011 h3.2⟩),show P.length+j-1=P.length+(j-1) by exact aaf (aG 0x31c00193c20121c190c212 [_,_,_,_] rfl (aaa (aG 0x12c19010111 [_,_,_] rfl h3.1)) (sA _ _)) (aG 0x230c01193c21192c10c012 [_,_,_,_] rfl (sA _ _) (aaa (aG 0x119010111 [_,_] rfl h3.1))),ap,aad,aad,aaq (by exact aG 0x200192c10110112 [_,_,_] rfl h3.1 (sA _ _)),aaw (by exact (Nat.le_total _ _).elim (λy2=>yU 0x2310194c21413c2121c0013 h3.2 (aaa y2) (aaa (bP 0x119010111 h3.1))) (λy2=>vd 0x2310932120c10110113 h3.1 h3.2 (aaZ y2))),aaq (by exact aG 0x10010111 [_,_] rfl h3.1)]
    obtain ⟨i,hi⟩:∃i,j-s.length=i+1:=⟨j-s.length-1,aaf ((sA _ _)) ((Nat.le_total _ _).elim (λy2=>bP 0x1190c01190c211 (aaa y2)) (λy2=>vd 0x3192c003c1010922110113 h3.1 (aaZ y2) (sA _ _)))⟩
    rw [hi,aba,List.getElem?_cons_succ,aaw (by exact aG 0x241013c21194c33121c0013 [_,_,_,_,_] rfl h3.2 hi (aaa (aG 0x10010111 [_,_] rfl h3.1))),show j-1-s.length=i from aaf ((aar h2).elim (λy2=>(Nat.le_total _ _).elim (λy1=>yU 0x4200301312c2110113 y2 (aaa y1) (Nat.sub_le _ _)) (λy1=>bP 0x100090211 (aaZ y1))) (λy2=>(Nat.le_total _ _).elim (λy1=>fi [_,_,_,_,_,_] [] 0x12030c5015194c21432c21191c0214 hi (aaa y1) (aaa (bP 0x119010111 y2)) (sA _ _)) (λy1=>bP 0x100090211 (aaZ y1)))) (fi [_,_,_,_,_,_] [] 0x310540c21192c50143c201191c0314 hi (sA _ _) (sA _ _) (aaa (bP 0x10010111 h3.1)))]
   ·rw [if_neg (λq=>h3 ⟨by haveI:=q.1;exact yU 0x23140c43c1c0121c0112 q.1 (sA _ _),by haveI:=q.2;exact vd 0x32c1032c0c10c011 q.2⟩),ap]
    by_cases h4:j<s.length
    ·rw [aad,aad,aaw h4,aaw h4]
    ·obtain ⟨i,rfl⟩:∃i,j=s.length+t.length+1+i:=⟨j-(s.length+t.length+1),by haveI h5:s.length+t.length<j:=Nat.lt_of_not_le (λq=>h3 ⟨(aar h2).elim (λy2=>bP 0x11101110522 h4 y2) (λy2=>y2),q⟩);exact aaf (vd 0x11932ccc001932cc1c0011 (sA _ _)) (vd 0x301921ccc031921cc0c211 (aaa (lZ 0x21910cc0210c111 h5)))⟩
     rw [aaq (by rw [aac];exact aG 0x21910ccc10c00 [_,_,_] rfl),aaq (by rw [aac,aau];exact aG 0x21910ccc191c0c00 [_,_,_] rfl),aac,aac,aau]
     rw [show s.length+t.length+1+i-(s.length+t.length)=i+1 from aaf (aG 0x193c0031921ccc21c0c211 [_,_,_,_] rfl (aaa (aG 0x21910ccc10c00 [_,_,_] rfl))) (aG 0x3192c010c3c21910ccc011 [_,_,_,_] rfl (sA _ _)),show s.length+t.length+1+i-(s.length+(t.length+1))=i from aaf (aG 0x30031921ccc192c1c0c211 [_,_,_,_] rfl (aaa (aG 0x21910ccc191c0c00 [_,_,_] rfl))) (aG 0x320191c0c3c21910ccc011 [_,_,_,_] rfl (sA _ _)),List.getElem?_cons_succ]
theorem DN {arr:Array Keyed} {P D R:List Keyed} (e:arr.toList=P++(D++R)):(mirror arr P.length (P.length+D.length) ((P.length+D.length-P.length)/2)).toList=P++(D.reverse++R):=by
 haveI hsz:P.length+D.length<=arr.size:=by rw [<- aa2,e];simp only [aac];exact aG 0x21c0c10c00 [_,_,_] rfl
 apply List.ext_getElem?
 intro k
 rw [aaA,getElem?_mirror_all hsz k]
 simp only [<- aaA,e]
 by_cases h1:k<P.length
 ·rw [if_neg (λq=>bP 0x9096010110112 h1 q.1),aaw h1,aaw h1]
 ·obtain ⟨j,rfl⟩:∃j,k=P.length+j:=⟨k-P.length,aaf (aG 0x12c0021c0011 [_,_,_] rfl (sA _ _)) (aG 0x201c0210c211 [_,_,_] rfl (aaa (aG 0x1010511 [_,_] rfl h1)))⟩
  have ap:∀(l:List Keyed) (i:Nat),(P++l)[P.length+i]? = l[i]? := λl i=>by rw [aaq (aaK _ _),aaF]
  rw [ap (D.reverse++R) j]
  by_cases h2:j<D.length
  ·rw [if_pos (⟨bP 0x10c000,lZ 0x12c02c110111 h2⟩),show P.length+(P.length+D.length)-1-(P.length+j)=P.length+(D.length-1-j) from aaf ((Nat.le_total _ _).elim (λy2=>fi [_,_,_,_,_,_,_] [] 0x61c00195c40126c50141c1c193c21321c0c214 (aaa y2) (aaa (lZ 0x12c2c19010111 h2)) (sA _ _) (sA _ _)) (λy2=>lZ 0x21c00090211 (aaZ y2))) ((Nat.le_total _ _).elim (λy2=>fi [_,_,_,_,_,_,_] [] 0x405c06192c21193c65c5c0115c4c301210c214 (aaa y2) (sA _ _) (sA _ _) (aaa (bP 0x119010111 h2))) (λy2=>fi [_,_,_,_,_,_] [] 0x425c0193c15c5c0105c4c3010922110114 h2 (aaZ y2) (sA _ _) (sA _ _))),ap,aaw (by exact aG 0x2012191c2110012 [_,_,_] rfl (Nat.sub_le _ _) (aaa (aG 0x119010111 [_,_] rfl h2))),aaw (by rw [abd];exact h2),List.getElem?_reverse h2]
  ·rw [if_neg (λq=>h2 (by haveI:=q.2;exact lZ 0x21120c10c111 q.2)),ap,aaq (by exact aG 0x1010511 [_,_] rfl h2),aaq (by rw [abd];exact bP 0x1010511 h2),abd]
section
theorem qd (an:qg (model prog w) A E s lt ok κ) {st:SortSt} (hk:kindOf st=κ) {i j:Nat} {x y:Keyed} (hx:(arrOf st)[i]? = some x) (hy:(arrOf st)[j]? = some y) (ox:ok x) (oy:ok y) {Q:Option Bool->SortSt->Prop} (h:Q (some (lt x y)) st) :
  wpS (model prog w) A E s (ltAt' i j) Q st:=by
 rw [ltAt'_eq]
 exact wpS_bind (wpS_get (wpS_bind (bC hx (wpS_bind (bC hy (an.ask ox oy hk h))))))
structure lW (st st':SortSt):Prop where
 k:kindOf st'=kindOf st
 p:pendingOf st'=pendingOf st
 f:failedOf st'=failedOf st
theorem lW.refl (st:SortSt):lW st st:=⟨rfl,rfl,rfl⟩
theorem lW.arr {st st':SortSt} (h:lW st st') (a:Array Keyed):lW st (setArr st' a):=⟨h.k,h.p,h.f⟩
theorem AG (an:qg (model prog w) A E s lt ok κ) {st:SortSt} (hk:kindOf st=κ) {P u R:List Keyed} {okn:Nat} (he:(arrOf st).toList=P++(u++R)) (ou:∀x∈u,ok x) (h1:1<=okn) (hokn:okn<=u.length) (hs:(u.take okn).Pairwise (Le lt)) {Q:Bool->SortSt->Prop}
  (hQ:∀c st',lW st st'->(arrOf st').toList=P++(c++R)->qf lt u c->Q true st'):wpS (model prog w) A E s (binarySort' P.length u.length okn) Q st:=by
 rw [binarySort'_eq]
 refine wpS_bind (wpS_forRange (I:=λk c st'=>c.1=none/\lW st st'/\ ∃d,(arrOf st').toList=P++((d++u.drop k)++R)/\d.length=k/\qf lt (u.take k) d) ?step ?gZ ⟨rfl,lW.refl _,u.take (max okn 1),?_,?_,?_⟩)
 case gZ =>
  rintro c st' ⟨hc,S,d,e,hd,hm⟩
  obtain ⟨c1,c2⟩:=c
  cases hc
  rw [Nat.max_eq_left h1,Nat.max_eq_right hokn] at hd hm e
  rw [List.drop_eq_nil_of_le (aaL _),List.append_nil] at e
  rw [List.take_of_length_le (aaL _)] at hm
  exact wpS_pure (hQ d st' S e hm)
 case step =>
  rintro k c st' hk1 hk2 ⟨hc,S,d,e,hd,hm⟩
  obtain ⟨c1,c2⟩:=c
  cases hc
  obtain ⟨x,t,ex⟩:∃x t,u.drop k=x::t:=⟨u[k],u.drop (k+1),List.drop_eq_getElem_cons hk2⟩
  haveI et:u.drop (k+1)=t:=by rw [List.drop_eq_getElem_cons hk2] at ex;exact (List.cons.inj ex).2
  have xu:u[k]? = some x:=by rw [List.drop_eq_getElem_cons hk2] at ex;rw [aao hk2,(List.cons.inj ex).1]
  haveI ox:ok x:=ou x (aaI xu)
  haveI od:∀y∈d,ok y:=λy hy=>ou y (List.mem_of_mem_take (hm.2.mem_iff.mp hy))
  rw [ex] at e
  have e':(arrOf st').toList=P++(d++(x::(t++R))):=by rw [e,aad];rfl
  have kk:kindOf st'=κ:=by rw [S.k,hk]
  have hx:(arrOf st')[P.length+k]? = some x:=by
   rw [<- aaA,e',aaq (aaK _ _),aaF,aaq (by exact aG 0x10010211 [_,_] rfl hd),hd,Nat.sub_self];rfl
  dsimp only
  refine wpS_bind (wpS_mono (wpS_forRange (I:=λi c st''=>st''=st'/\ ∃l r,c=(none,l,r)/\l<=r/\r<=k/\r-l<=k-i/\(∀y∈d.take l,Le lt y x)/\(∀y∈d.drop r,lt x y=true))
   (Q:=λc st''=>st''=st'/\ ∃l r,c=(none,l,r)/\l<=k/\(∀y∈d.take l,Le lt y x)/\(∀y∈d.drop l,lt x y=true)) ?istep ?ifin ?iinit) ?ipost)
  case iinit=>exact ⟨rfl,0,k,rfl,by exact aG 0x900 [_] rfl,by exact aG 0x0 [_] rfl,by exact aG 0x0 [_] rfl,λy hy=>by (rw [List.take_zero] at hy;cases hy),λy hy=>by (rw [List.drop_eq_nil_of_le (by exact aG 0x10010211 [_,_] rfl hd)] at hy;cases hy)⟩
  case ifin =>
   rintro c st'' ⟨rfl,l,r,rfl,hlr,hrk,hm',hlo,hhi⟩
   haveI:l=r:=aaf hlr (Nat.le_of_sub_eq_zero (Nat.le_zero.mp (by rw [Nat.zero_max,Nat.sub_self] at hm';exact hm')))
   subst this
   exact ⟨rfl,l,l,rfl,hrk,hlo,hhi⟩
  case istep =>
   rintro i c st'' _ hik ⟨rfl,l,r,rfl,hlr,hrk,hm',hlo,hhi⟩
   dsimp only
   by_cases hge:l>=r
   ·rw [if_pos hge]
    have:l=r:=aaf (hlr) (hge)
    subst this
    exact wpS_pure ⟨rfl,l,l,rfl,hrk,hlo,hhi⟩
   ·rw [if_neg hge]
    have hb2:=Iu hge
    have hb3:=Jd hge hm'
    have hml:(l+r)/2<d.length:=vd 0x312193c01120110313 hd hrk hb2.2
    have hy:d[(l+r)/2]? = some d[(l+r)/2]:=aao hml
    refine bH (d[(l+r)/2]) λy ey=> ?_
    rw [ey] at hy
    haveI hy':(arrOf st'')[P.length+(l+r)/2]? = some y:=by rw [ut e' (hml),hy]
    refine wpS_bind (qd an kk hx hy' ox (od y (aaI hy)) ?_)
    dsimp only
    by_cases hless:lt x y=true
    ·rw [if_pos hless]
     refine wpS_pure ⟨rfl,l,(l+r)/2,rfl,hb2.1,aG 0x120021110212 [_,_,_] rfl hd hml,hb3.1,hlo,λz hz=> ?_⟩
     obtain ⟨j,hj,hj2,ej⟩:=jj hz
     rcases y6 hm.1 hj hy ej with h | h
     ·subst h;rw [hy] at ej;cases ej;exact hless
     ·cases q:lt x z with
      | true=>rfl
      | false=>haveI:=an.lin.ntr q h;rw [hless] at this;cases this
    ·rw [if_neg hless]
     refine wpS_pure ⟨rfl,(l+r)/2+1,r,rfl,hb2.2,hrk,hb3.2,λz hz=> ?_,hhi⟩
     obtain ⟨j,hj,ej⟩:=mH hz
     have hless':Le lt y x:=by cases q:lt x y with
      | true=>exact absurd q hless
      | false=>exact q
     rcases y6 hm.1 (Nat.le_of_lt_succ hj) ej hy with h | h
     ·subst h;rw [hy] at ej;cases ej;exact hless'
     ·exact an.lin.trans h hless'
  case ipost =>
   rintro c st'' ⟨rfl,l,r,rfl,hlk,hlo,hhi⟩
   dsimp only
   rw [moveDown'_eq]
   have ed:d.take l++d.drop l=d:=aa0 l d
   haveI hb:=Da (arr:=arrOf st'') (P:=P) (s:=d.take l) (t:=d.drop l) (x:=x) (R:=t++R) (by rw [ed];exact e')
   rw [ed,hd,List.length_drop,hd] at hb
   refine wpS_bind (wpS_modify (wpS_pure ⟨rfl,S.arr _,d.take l++x::d.drop l,?_,?_,?_⟩))
   ·show (bubble (arrOf st'') (P.length+k) (P.length+k-(P.length+l))).toList=_
    rw [Nat.add_sub_add_left,hb,et,aad (d.take l++x::d.drop l)]
   ·rw [aac,aau,List.length_take,List.length_drop,Nat.min_eq_left (by exact lZ 0x20120110312 hd hlk),hd,<- Nat.add_assoc,Nat.add_sub_cancel' hlk]
   ·refine ⟨?_,?_⟩
    ·haveI p:=hm.1
     rw [<- ed] at p
     obtain ⟨p1,p2,p3⟩:=aap.mp p
     refine aap.mpr ⟨p1,aaJ.mpr ⟨λy hy=>an.lin.of_lt (hhi y hy),p2⟩,λa ha b hb=> ?_⟩
     rcases aah.mp hb with h | h
     ·rw [h];exact hlo a ha
     ·exact p3 a ha b h
    ·haveI q:u.take (k+1)=u.take k++[x]:=by rw [List.take_add_one,xu];rfl
     rw [q]
     refine List.perm_middle.trans ?_
     rw [ed]
     exact (List.perm_append_singleton x d).symm.trans (hm.2.append_right [x])
 all_goals rw [Nat.max_eq_left h1]
 ·rw [aa0];exact he
 ·rw [List.length_take];exact Nat.min_eq_left hokn
 ·exact ⟨hs,.refl _⟩
end
open PySem PyProof.Rows
section
noncomputable def C5 (lo a nrem:Nat):StateT SortSt Sem AscSt :=
 forIn [a:nrem] ((none,a):AscSt) λ_ __s=>do
  let __x <- ltAt' (lo+__s.snd) (lo+__s.snd-1)
  match __x with
  | some smaller=>if smaller=true then pure (ForInStep.done (none,__s.snd)) else pure (ForInStep.yield (none,__s.snd+1))
  | _=>pure (ForInStep.done (some none,__s.snd))
theorem Bp (r:Keyed->Keyed->Prop) (tr:∀ {a b c:Keyed},r a b->r b c->r a c) {W:List Keyed} {a b:Keyed} (h:(W++[a]).Pairwise r) (hab:r a b):(W++[a]++[b]).Pairwise r:=by
 refine aap.mpr ⟨h,abe _ _,λx hx y hy=> ?_⟩
 rw [aag.mp hy]
 rcases aan.mp hx with hx | hx
 ·exact tr ((aap.mp h).2.2 x hx a (.head _)) hab
 ·rw [aag.mp hx];exact hab
theorem tP {l:List Keyed} (h:1<=l.length):∃l' a,l=l'++[a]:=⟨l.dropLast,l.getLast (by intro q;rw [q] at h;cases h),(List.dropLast_concat_getLast _).symm⟩
theorem qj {arr:Array Keyed} {l1 l2:List Keyed} {x:Keyed} (e:arr.toList=l1++x::l2) {i:Nat} (hi:i=l1.length):arr[i]? = some x:=by
 rw [<- aaA,e,hi,aaq (aaL _),Nat.sub_self];rfl
theorem zy (an:qg (model prog w) A E s lt ok κ) {st:SortSt} (hk:kindOf st=κ) {P D T:List Keyed} (he:(arrOf st).toList=P++(D++T)) (od:∀x∈D++T,ok x) (h1:1<=D.length) (hs:D.Pairwise (Le lt)) {Q:AscSt->SortSt->Prop}
  (hQ:∀D' T',D++T=D'++T'->1<=D'.length->D'.Pairwise (Le lt)->(T'=[]\/ ∃D0 a b T0,D'=D0++[a]/\T'=b::T0/\lt b a=true)->Q (none,D'.length) st):wpS (model prog w) A E s (C5 P.length D.length (D++T).length) Q st:=by
 unfold C5
 refine wpS_forRange (I:=λx c st'=>st'=st/\c=(none,x)/\ ∃D' T',D++T=D'++T'/\D'.length=x/\1<=x/\D'.Pairwise (Le lt)) ?step ?gZ ⟨rfl,rfl,D,T,rfl,rfl,h1,hs⟩
 case gZ =>
  rintro c st' ⟨rfl,rfl,D',T',e,hd,h1,hs'⟩
  haveI h1':1<=D'.length:=aG 0x1901190110312 [_,_] rfl hd h1
  rw [<- hd]
  haveI hl:D.length<=(D++T).length:=by rw [aac];exact aG 0x10c000 [_,_] rfl
  rw [Nat.max_eq_right hl,e,aac] at hd
  exact hQ D' T' e h1' hs' (.inl (List.eq_nil_of_length_eq_zero (aaf (aG 0x91010c0311 [_,_] rfl hd) (aG 0x900 [_] rfl))))
 case step =>
  rintro x c st' hx1 hx2 ⟨rfl,rfl,D',T',e,hd,h1,hs'⟩
  dsimp only
  obtain ⟨D0,a,rfl⟩:=tP (l:=D') (aG 0x1901190110312 [_,_] rfl hd h1)
  cases T' with
  | nil=>rw [e,List.append_nil] at hx2;exact (aG 0x9096012110112 [_,_] rfl hx2 hd).elim
  | cons b T' =>
   haveI e1:(arrOf st').toList=(P++D0)++a::(b::T'):=by rw [he,e];simp only [aad,aba,List.nil_append]
   haveI e2:(arrOf st').toList=(P++(D0++[a]))++b::T':=by rw [he,e];simp only [aad,aba,List.nil_append]
   rw [aac,aaW] at hd
   haveI oa:ok a:=od a (by rw [e];exact aaE _ (aat _ (.head _)))
   haveI ob:ok b:=od b (by rw [e];exact aat _ (.head _))
   refine wpS_bind (qd an hk (qj e2 (by simp only [aac,aaW];exact aaf (aG 0x190c2c12c01190c311 [_,_,_] rfl hd) (aG 0x12c190c2c01190c211 [_,_,_] rfl hd))) (qj e1 (by simp only [aac];exact aaf (aG 0x3c2013c192c211190c312 [_,_,_,_] rfl hd (aaa (aG 0x1c190019011 [_,_] rfl h1))) (aG 0x302c0193c12c011190c212 [_,_,_,_] rfl hd (sA _ _)))) ob oa ?_)
   dsimp only
   cases q:lt b a with
   | true =>
    rw [if_pos rfl]
    haveI:=hQ (D0++[a]) (b::T') e (by rw [aac,aaW];exact aG 0x190c1900 [_] rfl) hs' (.inr ⟨D0,a,b,T',rfl,rfl,q⟩)
    rw [aac,aaW,hd] at this
    exact wpS_pure this
   | false =>
    rw [if_neg aa5]
    exact wpS_pure ⟨rfl,rfl,D0++[a]++[b],T',by rw [e];simp only [aad,aba,List.nil_append],by simp only [aac,aaW];exact aaf (aG 0x191c19190cc01190c211 [_,_] rfl hd) (aG 0x19190cc191c01190c311 [_,_] rfl hd),aG 0x190c1900 [_] rfl,Bp (Le lt) an.lin.trans hs' q⟩
noncomputable def wy (lo n nrem:Nat):StateT SortSt Sem (Option Nat):=do
 reverseSlice' lo (lo+n)
 let __s <- C5 lo n nrem
 match __s.fst with
 | some r=>pure r
 | none=>pure (some __s.snd)
noncomputable def AW (lo n nrem:Nat):StateT SortSt Sem DescSt :=
 forIn [n:nrem] ((none,n,0):DescSt) λ_ __s=>do
  let __x <- ltAt' (lo+__s.snd.fst) (lo+__s.snd.fst-1)
  match __x with
  | some smaller =>
   if smaller=true then
    if __s.snd.snd>0 then do
     reverseSlice' (lo+__s.snd.fst-(__s.snd.snd+1)) (lo+__s.snd.fst)
     pure (ForInStep.yield (none,__s.snd.fst+1,0))
    else pure (ForInStep.yield (none,__s.snd.fst+1,0))
   else do
    let __x <- ltAt' (lo+__s.snd.fst-1) (lo+__s.snd.fst)
    match __x with
    | some larger =>
     if larger=true then pure (ForInStep.done (none,__s.snd.fst,__s.snd.snd))
     else pure (ForInStep.yield (none,__s.snd.fst+1,__s.snd.snd+1))
    | _=>pure (ForInStep.done (some none,__s.snd.fst,__s.snd.snd))
  | _=>pure (ForInStep.done (some none,__s.snd.fst,__s.snd.snd))
noncomputable def yg (lo n nrem:Nat):StateT SortSt Sem (Option Nat):=do
 liftM (rule "list.sort.descending-run")
 let __s <- AW lo (n+1) nrem
 match __s.fst with
 | some r=>pure r
 | none =>
  if __s.snd.snd>0 then do
   reverseSlice' (lo+__s.snd.fst-(__s.snd.snd+1)) (lo+__s.snd.fst)
   wy lo __s.snd.fst nrem
  else wy lo __s.snd.fst nrem
def Ge (lt:Keyed->Keyed->Bool) (x y:Keyed):Prop:=Le lt y x
theorem sY {st:SortSt} {P D R:List Keyed} {i j:Nat} (e:(arrOf st).toList=P++(D++R)) (hi:i=P.length) (hj:j=P.length+D.length) {Q:Unit->SortSt->Prop}
  (h:∀a:Array Keyed,a.toList=P++(D.reverse++R)->Q () (setArr st a)):wpS (model prog w) A E s (reverseSlice' i j) Q st:=by
 rw [reverseSlice'_eq,hi,hj]
 exact wpS_modify (h _ (DN e))
theorem CF (an:qg (model prog w) A E s lt ok κ) {st0 st:SortSt} (hk:kindOf st=κ) (S:lW st0 st) {P D T:List Keyed} (he:(arrOf st).toList=P++(D++T)) (od:∀x∈D++T,ok x) (h1:1<=D.length) (hs:D.Pairwise (Ge lt)) {Q:Option Nat->SortSt->Prop}
  (hQ:∀D' T' st',lW st0 st'->(arrOf st').toList=P++(D'++T')->(D'++T').Perm (D++T)->1<=D'.length->D'.Pairwise (Le lt)->Q (some D'.length) st'):wpS (model prog w) A E s (wy P.length D.length (D++T).length) Q st:=by
 unfold wy
 refine wpS_bind (sY he rfl rfl λa ha=> ?_)
 haveI hl:(D++T).length=(D.reverse++T).length:=by simp only [aac,abd]
 have hp:(D.reverse++T).Perm (D++T):=(List.reverse_perm D).append_right T
 rw [hl,show D.length=D.reverse.length from abd.symm]
 refine wpS_bind (zy an (st:=setArr st a) hk (D:=D.reverse) (T:=T) ha (λx hx=>od x (hp.mem_iff.mp hx)) (by rw [abd];exact h1) (List.pairwise_reverse.mpr hs) λD' T' e h1 hs' _=> ?_)
 dsimp only
 exact wpS_pure (hQ D' T' _ (S.arr a) (by rw [<- e];exact ha) (by rw [<- e];exact hp) h1 hs')
structure DI (lt:Keyed->Keyed->Bool) (P W:List Keyed) (st st':SortSt) (D Z T:List Keyed):Prop where
 sim:lW st st'
 arr:(arrOf st').toList=P++(D++(Z++T))
 pos:1<=Z.length
 srt:(D++Z).Pairwise (Ge lt)
 eql:∀a∈Z,∀b∈Z,Le lt a b
 prm:(D++(Z++T)).Perm W
theorem DI.rev {P W D Z T:List Keyed} {st st':SortSt} (h:DI lt P W st st' D Z T) {a:Array Keyed} (ha:a.toList=(P++D)++(Z.reverse++T)):DI lt P W st (setArr st' a) D Z.reverse T:=by
 obtain ⟨s1,s2,s3⟩:=aap.mp h.srt
 refine ⟨h.sim.arr a,?_,?_,?_,?_,?_⟩
 ·show a.toList=_
  rw [ha,aad]
 ·rw [abd];exact h.pos
 ·refine aap.mpr ⟨s1,?_,λx hx y hy=>s3 x hx y (aax.mp hy)⟩
  refine List.pairwise_of_forall_mem_list λx hx y hy=> ?_
  exact h.eql y (aax.mp hy) x (aax.mp hx)
 ·exact λa ha b hb=>h.eql a (aax.mp ha) b (aax.mp hb)
 ·exact (((List.reverse_perm Z).append_right T).append_left D).trans h.prm
theorem CD (an:qg (model prog w) A E s lt ok κ) {st0 st:SortSt} (hk:kindOf st0=κ) {P W D Z T:List Keyed} (oW:∀x∈W,ok x) (h0:DI lt P W st0 st D Z T) (hz:Z.length=1) {Q:DescSt->SortSt->Prop}
  (hQ:∀D' Z' T' st',DI lt P W st0 st' D' Z' T'->Q (none,D'.length+Z'.length,Z'.length-1) st'):wpS (model prog w) A E s (AW P.length (D.length+1) W.length) Q st:=by
 unfold AW
 refine wpS_forRange (I:=λx c st'=> ∃D' Z' T',DI lt P W st0 st' D' Z' T'/\D'.length+Z'.length=x/\c=(none,x,Z'.length-1)) ?step ?gZ ⟨D,Z,T,h0,by rw [hz],by rw [hz]⟩
 case gZ =>
  rintro c st' ⟨D',Z',T',h,hx,rfl⟩
  rw [<- hx]
  exact hQ D' Z' T' st' h
 case step =>
  rintro x c st' hx1 hx2 ⟨D',Z',T',h,hx,rfl⟩
  dsimp only
  have kk:kindOf st'=κ:=by rw [h.sim.k,hk]
  cases T' with
  | nil=>haveI:=h.prm.length_eq;simp only [aac,List.length_nil] at this;exact (aG 0x90961093c2c31032c2110113 [_,_,_,_] rfl hx2 hx this).elim
  | cons y T' =>
   obtain ⟨Z0,q,ez⟩:=tP h.pos
   have hzl:Z'.length=Z0.length+1:=by rw [ez,aac,aaW]
   haveI e1:(arrOf st').toList=(P++(D'++Z0))++q::(y::T'):=by rw [h.arr,ez];simp only [aad,aba,List.nil_append]
   haveI e2:(arrOf st').toList=(P++(D'++Z'))++y::T':=by rw [h.arr];simp only [aad,aba,List.nil_append]
   have qz:q∈Z':=by rw [ez];exact aat _ (.head _)
   have oq:ok q:=oW q (h.prm.mem_iff.mp (aat _ (aaE _ qz)))
   have oy:ok y:=oW y (h.prm.mem_iff.mp (aat _ (aat _ (.head _))))
   have a1:=qj e1 (i:=P.length+x-1) (by simp only [aac];exact aaf (aG 0x30c5c4025c194c21193c121210c313 [_,_,_,_,_,_] rfl hx hzl (aaa (aG 0x12c1901190c011 [_,_,_] rfl hx1))) (aG 0x530c4c0195c24c01193c131210c213 [_,_,_,_,_,_] rfl hx hzl (sA _ _)))
   have a2:=qj e2 (i:=P.length+x) (by simp only [aac];exact aaf (aG 0x10c3c23c0210c311 [_,_,_,_] rfl hx) (aG 0x23c10c3c0210c211 [_,_,_,_] rfl hx))
   -- one further,strictly below
   have nxt:∀ {st2 D2 Z2},DI lt P W st0 st2 D2 Z2 (y::T')->D2.length+Z2.length=x->(∀z∈Z2,z∈Z')->lt y q=true-> ∃D3 Z3 T3,DI lt P W st0 st2 D3 Z3 T3/\D3.length+Z3.length=x+1/\((none,x+1,0):DescSt)=(none,x+1,Z3.length-1):=λ{st2 D2 Z2} h2 hl hsub hlt=>by
    refine ⟨D2++Z2,[y],T',⟨h2.sim,by rw [h2.arr];simp only [aad,aba,List.nil_append],aaL _,?_,?_,?_⟩,by simp only [aac,aaW];exact aaf (aG 0x192c1910cc0210c211 [_,_,_] rfl hl) (aG 0x1910cc192c0210c311 [_,_,_] rfl hl),rfl⟩
    ·refine aap.mpr ⟨h2.srt,abe _ _,λa ha b hb=> ?_⟩
     rw [aag.mp hb]
     have lq:∀z∈Z2,Le lt y z:=λz hz=>an.lin.trans (an.lin.of_lt hlt) (h.eql q qz z (hsub z hz))
     rcases aan.mp ha with ha | ha
     ·obtain ⟨z,Z4,e4⟩:∃z Z4,Z2=z::Z4:=by
       cases Z2 with
       | nil=>haveI:=h2.pos;simp at this
       | cons a b=>exact ⟨a,b,rfl⟩
      have zz:z∈Z2:=by rw [e4];exact .head _
      exact an.lin.trans (lq z zz) ((aap.mp h2.srt).2.2 a ha z zz)
     ·exact lq a ha
    ·intro a ha b hb
     rw [aag.mp ha,aag.mp hb]
     cases q':lt y y with
     | false=>exact q'
     | true=>have:=an.lin.asym q';rw [q'] at this;cases this
    ·haveI:=h2.prm
     rw [aad]
     exact this
   refine wpS_bind (qd an kk a2 a1 oy oq ?_)
   dsimp only
   cases hl:lt y q with
   | true =>
    rw [if_pos rfl]
    by_cases hn:Z'.length-1>0
    ·rw [if_pos hn]
     haveI e3:(arrOf st').toList=(P++D')++(Z'++y::T'):=by rw [h.arr,aad]
     refine wpS_bind (sY e3 (by rw [aac];exact aaf ((Nat.le_total _ _).elim (λy2=>fi [_,_,_,_,_,_] [] 0x5c30194c10125c194c3c21210c313 hx (aaa y2) (sA _ _)) (λy2=>lZ 0x21c00090211 (aaZ y2))) (fi [_,_,_,_,_,_] [] 0x403c01195c21195c4c23c01210c213 hx (sA _ _) (aaa (bP 0x190191c0311 hzl)))) (by rw [aac];exact aaf (aG 0x103cc23c0210c311 [_,_,_,_] rfl hx) (aG 0x23c103cc0210c211 [_,_,_,_] rfl hx)) λa ha=> ?_)
     exact wpS_pure (nxt (h.rev ha) (by rw [abd];exact hx) (λz hz=>aax.mp hz) hl)
    ·rw [if_neg hn]
     exact wpS_pure (nxt h hx (λz hz=>hz) hl)
   | false =>
    rw [if_neg aa5]
    refine wpS_bind (qd an kk a1 a2 oq oy ?_)
    dsimp only
    cases hg:lt q y with
    | true =>
     rw [if_pos rfl]
     haveI:=hQ D' Z' (y::T') st' h
     rw [hx] at this
     exact wpS_pure this
    | false =>
     rw [if_neg aa5]
     have yz:∀z∈Z',Le lt y z/\Le lt z y:=λz hz=>⟨an.lin.trans hg (h.eql q qz z hz),an.lin.trans (h.eql z hz q qz) hl⟩
     refine wpS_pure ⟨D',Z'++[y],T',⟨h.sim,by rw [h.arr];simp only [aad,aba,List.nil_append],by rw [aac];exact aG 0x20c190191c0311 [_,_,_] rfl hzl,?_,?_,?_⟩,by rw [aac,aaW];exact aaf (aG 0x192c191c0c0210c211 [_,_,_] rfl hx) (aG 0x191c0c192c0210c311 [_,_,_] rfl hx),by rw [aac,aaW,hzl];rfl⟩
     ·rw [ez,<- aad D',<- aad D']
      haveI:=h.srt
      rw [ez,<- aad] at this
      exact Bp (Ge lt) (λa b=>an.lin.trans b a) this hg
     ·intro a ha b hb
      rcases aan.mp ha with ha | ha<;>rcases aan.mp hb with hb | hb
      ·exact h.eql a ha b hb
      ·rw [aag.mp hb];exact (yz a ha).2
      ·rw [aag.mp ha];exact (yz b hb).1
      ·rw [aag.mp ha,aag.mp hb];exact an.lin.trans (yz q qz).1 (yz q qz).2
     ·rw [aad Z'];exact h.prm
theorem wF (an:qg (model prog w) A E s lt ok κ) {st0 st:SortSt} (hk:kindOf st0=κ) {P W D Z T:List Keyed} (oW:∀x∈W,ok x) (h0:DI lt P W st0 st D Z T) (hz:Z.length=1) {Q:Option Nat->SortSt->Prop}
  (hQ:∀D' T' st',lW st0 st'->(arrOf st').toList=P++(D'++T')->(D'++T').Perm W->1<=D'.length->D'.Pairwise (Le lt)->Q (some D'.length) st'):wpS (model prog w) A E s (yg P.length D.length W.length) Q st:=by
 unfold yg
 refine wpS_bind (wpS_lift (wpAny_rule ⟨rfl,?_⟩))
 refine wpS_bind (CD an hk oW h0 hz λD' Z' T' st' h=> ?_)
 dsimp only
 have go:∀ {st2 Z2},DI lt P W st0 st2 D' Z2 T'->Z2.length=Z'.length->wpS (model prog w) A E s (wy P.length (D'.length+Z'.length) W.length) Q st2:=λ{st2 Z2} h2 hl=>by
  have hp:(D'++Z2++T').Perm W:=by rw [aad];exact h2.prm
  rw [<- hp.length_eq,<- hl,<- aac]
  exact CF an (by rw [h2.sim.k,hk]) h2.sim (by rw [h2.arr,aad]) (λx hx=>oW x (hp.mem_iff.mp hx)) (by rw [aac];haveI:=h2.pos;exact aG 0x1c190019011 [_,_] rfl this) h2.srt λD3 T3 st3 S e p h1 hs=>hQ D3 T3 st3 S e (p.trans hp) h1 hs
 by_cases hn:Z'.length-1>0
 ·rw [if_pos hn]
  haveI e3:(arrOf st').toList=(P++D')++(Z'++T'):=by rw [h.arr,aad]
  refine wpS_bind (sY e3 (by rw [aac];exact aaf ((Nat.le_total _ _).elim (λy2=>yU 0x32c00191c40143c2c191c0c212 (aaa y2) (sA _ _)) (λy2=>lZ 0x21c00090211 (aaZ y2))) ((Nat.le_total _ _).elim (λy2=>yU 0x432c0190c4c13c2c011190c212 (aaa y2) (sA _ _)) (λy2=>yU 0x421c0190c4c32c1c0109022009113 hn (aaZ y2) (sA _ _)))) (by rw [aac];exact aaf (aG 0x210cc21c0c00 [_,_,_] rfl) (aG 0x21c0c210cc00 [_,_,_] rfl)) λa ha=> ?_)
  exact go (h.rev ha) abd
 ·rw [if_neg hn]
  exact go h rfl
theorem BW (lo nrem:Nat):countRun' lo nrem=(do
  let __s <- C5 lo 1 nrem
  match __s.fst with
  | some r=>pure r
  | none =>
   if (__s.snd==nrem)=true then pure (some __s.snd)
   else if __s.snd>1 then do
    let __x <- ltAt' lo (lo+__s.snd-1)
    match __x with
    | some rose=>if rose=true then pure (some __s.snd) else do
      reverseSlice' lo (lo+__s.snd)
      yg lo __s.snd nrem
    | _=>pure none
   else yg lo __s.snd nrem):=by
 rw [countRun'_eq]
 unfold yg wy AW C5
 simp only []
 congr 1
 funext __s
 obtain ⟨r,n⟩:=__s
 cases r with
 | some r=>rfl
 | none =>
  dsimp only
  split
  ·rfl
  ·split
   ·congr 1
    funext x
    cases x with
    | none=>rfl
    | some rose =>
     dsimp only
     split
     ·rfl
     ·congr 1
      funext _r
      congr 1;funext u;congr 1;congr 1;funext s2;obtain ⟨r2,n2,q2⟩:=s2
      cases r2 with
      | some r2=>rfl
      | none =>
       dsimp only
       split
       ·congr 1;funext v;congr 1;funext w;congr 1;funext s3;obtain ⟨r3,n3⟩:=s3;cases r3<;>rfl
       ·congr 1;funext w;congr 1;funext s3;obtain ⟨r3,n3⟩:=s3;cases r3<;>rfl
   ·congr 1;funext u;congr 1;congr 1;funext s2;obtain ⟨r2,n2,q2⟩:=s2
    cases r2 with
    | some r2=>rfl
    | none =>
     dsimp only
     split
     ·congr 1;funext v;congr 1;funext w;congr 1;funext s3;obtain ⟨r3,n3⟩:=s3;cases r3<;>rfl
     ·congr 1;funext w;congr 1;funext s3;obtain ⟨r3,n3⟩:=s3;cases r3<;>rfl
theorem CC (an:qg (model prog w) A E s lt ok κ) {st:SortSt} (hk:kindOf st=κ) {P W:List Keyed} (he:(arrOf st).toList=P++W) (oW:∀x∈W,ok x) (h1:1<=W.length) {Q:Option Nat->SortSt->Prop}
  (hQ:∀D T st',lW st st'->(arrOf st').toList=P++(D++T)->(D++T).Perm W->1<=D.length->D.Pairwise (Le lt)->Q (some D.length) st'):wpS (model prog w) A E s (countRun' P.length W.length) Q st:=by
 rw [BW]
 cases W with
 | nil=>cases h1
 | cons x T =>
 refine wpS_bind (zy an hk (D:=[x]) (T:=T) he oW (by simp) (abe _ _) λD' T' e h1 hs hb=> ?_)
 have e':x::T=D'++T':=e
 dsimp only
 rw [e'] at he oW
 have hQ':∀D T st',lW st st'->(arrOf st').toList=P++(D++T)->(D++T).Perm (D'++T')->1<=D.length->D.Pairwise (Le lt)->Q (some D.length) st':=λD T st' a b c d e=>hQ D T st' a b (by rw [e'];exact c) d e
 rw [e']
 by_cases hn:D'.length=(D'++T').length
 ·rw [if_pos (by rw [beq_iff_eq];exact hn)]
  exact wpS_pure (hQ' D' T' st (lW.refl _) he (.refl _) h1 hs)
 ·rw [if_neg (by rw [beq_iff_eq];exact hn)]
  rcases hb with hb | ⟨D0,a,b,T0,rfl,rfl,hlt⟩
  ·rw [hb,List.append_nil] at hn;exact absurd rfl hn
  ·have e1:(arrOf st).toList=(P++D0)++a::(b::T0):=by rw [he];simp only [aad,aba,List.nil_append]
   haveI oa:ok a:=oW a (aaE _ (aat _ (.head _)))
   have ir:∀z,Le lt z z:=λz=>by
    cases q:lt z z with
    | false=>exact q
    | true=>have:=an.lin.asym q;rw [q] at this;cases this
   by_cases hn1:(D0++[a]).length>1
   ·rw [if_pos hn1]
    cases D0 with
    | nil=>simp at hn1
    | cons c D1 =>
     haveI oc:ok c:=oW c (aaE _ (.head _))
     refine wpS_bind (qd an hk (qj (l1:=P) (x:=c) (l2:=D1++[a]++b::T0) (by rw [he];simp only [aad,aba,List.nil_append]) rfl) (qj e1 (by simp only [aac,aaW];exact aaf (aG 0x21c00192c1c190c211 [_,_,_] rfl (aaa (aG 0x191c0c1900 [_,_] rfl))) (aG 0x210c0192c191c0c011 [_,_,_] rfl (sA _ _)))) oc oa ?_)
     dsimp only
     cases hr:lt c a with
     | true=>exact wpS_pure (hQ' _ _ st (lW.refl _) he (.refl _) h1 hs)
     | false =>
      rw [if_neg aa5]
      have all:∀y∈c::D1++[a],Le lt y c/\Le lt a y:=λy hy=>by
       have p1:=(aap.mp hs).2.2
       haveI ya:Le lt y a:=by
        rcases aan.mp hy with h | h
        ·exact p1 y h a (.head _)
        ·rw [aag.mp h];exact ir a
       haveI cy:Le lt c y:=by
        rcases aan.mp hy with h | h
        ·rcases aah.mp h with h | h
         ·rw [h];exact ir c
         ·rw [aba] at hs
          exact (aaJ.mp hs).1 y (aaE _ h)
        ·rw [aag.mp h];exact p1 c (.head _) a (.head _)
       exact ⟨an.lin.trans ya hr,an.lin.trans hr cy⟩
      refine wpS_bind (sY he rfl rfl λarr ha=> ?_)
      haveI hp:((c::D1++[a]).reverse++([b]++T0)).Perm (c::D1++[a]++b::T0):=(List.reverse_perm _).append_right _
      haveI:=wF an (st0:=st) (st:=setArr st arr) hk (P:=P) (W:=c::D1++[a]++b::T0) (D:=(c::D1++[a]).reverse) (Z:=[b]) (T:=T0) oW
       ⟨(lW.refl st).arr arr,ha,aaL _,?_,λu hu v hv=>by rw [aag.mp hu,aag.mp hv];exact ir b,hp⟩ rfl hQ'
      ·rw [abd] at this;exact this
      ·refine aap.mpr ⟨?_,abe _ _,λu hu v hv=> ?_⟩
       ·refine List.pairwise_of_forall_mem_list λu hu v hv=> ?_
        haveI u1:=all u (aax.mp hu)
        haveI v1:=all v (aax.mp hv)
        exact an.lin.trans (an.lin.trans v1.1 ((aap.mp hs).2.2 c (.head _) a (.head _))) u1.2
       ·rw [aag.mp hv]
        exact an.lin.trans (an.lin.of_lt hlt) (all u (aax.mp hu)).2
   ·rw [if_neg hn1]
    cases D0 with
    | cons c D1=>simp at hn1
    | nil =>
     exact wF an (st0:=st) (st:=st) hk (P:=P) (W:=[]++[a]++b::T0) (D:=[a]) (Z:=[b]) (T:=T0) oW
      ⟨lW.refl st,he,aaL _,aaJ.mpr ⟨λy hy=>by rw [aag.mp hy];exact an.lin.of_lt hlt,abe _ _⟩,λu hu v hv=>by rw [aag.mp hu,aag.mp hv];exact ir b,.refl _⟩ rfl hQ'
end
open PySem PyProof.Rows
section
noncomputable def Pd (lt:Keyed->Keyed->Bool):List (Nat×Nat×Nat)->Nat->List Keyed->Prop
 | [],_,c=>c=[]
 | x::p,o,c=> ∃u c',c=u++c'/\x.1=o/\x.2.1=u.length/\1<=u.length/\u.Pairwise (Le lt)/\Pd lt p (o+u.length) c'
theorem Aq:∀ {p1 p2:List (Nat×Nat×Nat)} {o:Nat} {c1 c2:List Keyed},Pd lt p1 o c1->Pd lt p2 (o+c1.length) c2->Pd lt (p1++p2) o (c1++c2)
 | [],p2,o,c1,c2,h1,h2=>by
  have h1:c1=[]:=h1
  rw [h1] at h2 ⊢;exact h2
 | x::p1,p2,o,c1,c2,⟨u,c',e,a,b,d,f,g⟩,h2=>by
  refine ⟨u,c'++c2,by rw [e,aad],a,b,d,f,Aq g ?_⟩
  rw [e,aac,<- Nat.add_assoc] at h2;exact h2
theorem yX:∀ {p1 p2:List (Nat×Nat×Nat)} {o:Nat} {c:List Keyed},Pd lt (p1++p2) o c-> ∃c1 c2,A3 (c=c1++c2) (Pd lt p1 o c1) (Pd lt p2 (o+c1.length) c2)
 | [],p2,o,c,h=>⟨[],c,rfl,rfl,h⟩
 | x::p1,p2,o,c,⟨u,c',e,a,b,d,f,g⟩=>by
  refine bS λY9 y9=> ?_
  obtain ⟨c1,c2,e1,g1,g2⟩:=yX g
  refine y9 ?_
  refine ⟨u++c1,c2,by rw [e,e1,aad],⟨u,c1,rfl,a,b,d,f,g1⟩,?_⟩
  rw [aac,<- Nat.add_assoc];exact g2
theorem D5 {f:Nat×Nat×Nat->Nat×Nat×Nat} (hf:∀x,(f x).1=x.1/\(f x).2.1=x.2.1):∀ {p:List (Nat×Nat×Nat)} {i o:Nat} {c:List Keyed},Pd lt p o c->Pd lt (p.modify i f) o c
 | [],i,o,c,h=>by cases i<;>exact h
 | x::p,0,o,c,⟨u,c',e,a,b,d,k,g⟩=>⟨u,c',e,(hf x).1.trans a,(hf x).2.trans b,d,k,g⟩
 | x::p,i+1,o,c,⟨u,c',e,a,b,d,k,g⟩=>⟨u,c',e,a,b,d,k,D5 hf g⟩
theorem D4:∀ {p:List (Nat×Nat×Nat)} {o:Nat} {c:List Keyed},Pd lt p o c->p.length<=c.length
 | [],_,_,_=>Nat.zero_le _
 | x::p,o,c,⟨u,c',e,_,_,d,_,g⟩=>by rw [e,aac,aau,Nat.add_comm];exact Nat.add_le_add d (D4 g)
structure SI (lt:Keyed->Keyed->Bool) (κ:SortKind) (W:List Keyed) (st:SortSt) (c r:List Keyed):Prop where
 k:kindOf st=κ
 f:failedOf st=none
 a:(arrOf st).toList=c++r
 m:(c++r).Perm W
 p:Pd lt (pendingOf st).toList 0 c
theorem EB {α:Type}:∀ {l:List α} {i:Nat},i+1<l.length-> ∃p1 x y p2,l=p1++x::y::p2/\p1.length=i
 | [],_,h=>absurd h (Nat.not_lt_zero _)
 | [_],_,h=>absurd (Nat.lt_of_succ_lt_succ h) (Nat.not_lt_zero _)
 | x::y::l,0,_=>⟨[],x,y,l,rfl,rfl⟩
 | x::y::l,i+1,h=>by
  refine bS λY9 y9=> ?_
  obtain ⟨p1,a,b,p2,e,f⟩:=EB (l:=y::l) (Nat.lt_of_succ_lt_succ h)
  refine y9 ?_
  exact ⟨x::p1,a,b,p2,by rw [e];rfl,by rw [aau,f]⟩
theorem BM (an:qg (model prog w) A E s lt ok κ) {W c r:List Keyed} (oW:∀x∈W,ok x) {st:SortSt} (h:SI lt κ W st c r) {i:Nat} (hi:i+1<(pendingOf st).size) {Q:Bool->SortSt->Prop}
  (hQ:∀c' st',SI lt κ W st' c' r->c'.length=c.length->(pendingOf st').size+1=(pendingOf st).size->Q true st'):wpS (model prog w) A E s (mergeAt' i) Q st:=by
 haveI hl:i+1<(pendingOf st).toList.length:=hi
 refine bS λY9 y9=> ?_
 obtain ⟨p1,x,y,p2,ep,el⟩:=EB hl
 have hp:=h.p
 rw [ep] at hp
 obtain ⟨c1,_,rfl,g1,u,_,rfl,x1,x2,x3,x4,v,c2,rfl,y1,y2,y3,y4,g2⟩:=yX hp
 obtain ⟨xa,xb,xc⟩:=x
 obtain ⟨ya,yb,yc⟩:=y
 refine y9 ?_
 rw [aa6] at x1 y1 g2
 haveI x1:xa=c1.length:=x1
 haveI x2:xb=u.length:=x2
 haveI y1:ya=c1.length+u.length:=y1
 haveI y2:yb=v.length:=y2
 subst x1 x2 y1 y2
 have oc:∀z∈c1++(u++(v++c2)),ok z:=λz hz=>oW z (h.m.mem_iff.mp (aaE _ hz))
 rw [<- el]
 refine zF an (P:=c1) (R:=c2++r) h.k h.f ep (by rw [h.a];simp only [aad]) x4 y4 (λz hz=>oc z (aat _ (aaE _ hz))) (λz hz=>oc z (aat _ (aat _ (aaE _ hz)))) x3 y3 λm st' k' f' p' a' hm=> ?_
 have hml:m.length=u.length+v.length:=by rw [hm.2.length_eq,aac]
 refine hQ (c1++(m++c2)) st' ⟨k',f',by rw [a'];simp only [aad],?_,?_⟩ ?_ ?_
 ·refine .trans ?_ h.m
  haveI:=((hm.2.append_right c2).append_left c1).append_right r
  simp only [aad] at this ⊢;exact this
 ·rw [p']
  refine Aq g1 ⟨m,c2,rfl,(aa6 _).symm,hml.symm,by rw [hml];exact aam x3 (aaK _ _),hm.1,?_⟩
  rw [hml,aa6,<- Nat.add_assoc];exact g2
 ·simp only [aac,hml,Nat.add_assoc]
 ·show (pendingOf st').toList.length+1=(pendingOf st).toList.length
  rw [p',ep];simp only [aac,aau];exact aaf (aG 0x19191cc0c19191c0cc00 [_,_] rfl) (aG 0x19191c0cc19191cc0c00 [_,_] rfl)
noncomputable def D6 (p:Array (Nat×Nat×Nat)):Nat :=
 if Option.any (λx=>decide (x<p[p.size-2+1]?.elim 0 (·.2.1))) (if p.size-2>0 then p[p.size-2-1]?.map (·.2.1) else none)=true then p.size-2-1 else p.size-2
theorem FG {p:Array (Nat×Nat×Nat)} (h:¬p.size<=1):D6 p+1<p.size:=by
 have h2:p.size-2+1<p.size:=aG 0x1190c11290c211 [_,_] rfl (aaa (aG 0x290190411 [_] rfl h))
 unfold D6
 generalize Option.any _ _=b
 cases b with
 | true=>exact Nat.lt_of_le_of_lt (Nat.succ_le_succ (Nat.sub_le _ _)) h2
 | false=>exact h2
noncomputable def G0 (size:Nat):StateT SortSt Sem Unit:=do
 let c <- forIn [0:size] ((none,()):Option Unit×Unit) λ_ _=>do
  let s <- get
  if (pendingOf s).size<=1 then pure (.done (none,())) else do
   let b <- mergeAt' (D6 (pendingOf s))
   if (!b)=true then pure (.done (some (),())) else pure (.yield (none,()))
 match c.1 with
 | some r=>pure r
 | none=>pure ()
noncomputable def Ix (p:Array (Nat×Nat×Nat)) (pw:Nat):StateT SortSt Sem (ForInStep (Option Unit×Unit)) :=
 match (if p.size>1 then p[p.size-2]? else none) with
 | some (_,_,older)=>if older<=pw then pure (.done (none,())) else do
   let b <- mergeAt' (p.size-2)
   if (!b)=true then pure (.done (some (),())) else pure (.yield (none,()))
 | _=>pure (.done (none,()))
noncomputable def FM (lo n:Nat):StateT SortSt Sem (ForInStep (Option Unit×Nat)):=do
 modify λs=>setPending s ((pendingOf s).push (lo,n,0))
 pure (.yield (none,lo+n))
noncomputable def El (pw:Nat) (x:Nat×Nat×Nat):Nat×Nat×Nat:=(x.1,x.2.1,pw)
noncomputable def GY (size lo n pw:Nat):StateT SortSt Sem (ForInStep (Option Unit×Nat)):=do
 let c <- forIn [0:size] ((none,()):Option Unit×Unit) λ_ _=>do
  let s <- get
  Ix (pendingOf s) pw
 match c.1 with
 | some r=>pure (.done (some r,lo))
 | none=>do
  modify λs=>setPending s ((pendingOf s).modify ((pendingOf s).size-1) (El pw))
  FM lo n
noncomputable def Bo (size lo n:Nat):StateT SortSt Sem (ForInStep (Option Unit×Nat)):=do
 let s <- get
 match (pendingOf s).back? with
 | some (s1,n1,_)=>GY size lo n (power' size (2*s1+n1) (2*s1+n1+n1+n) size)
 | _=>FM lo n
noncomputable def HB (size mr lo:Nat):StateT SortSt Sem (ForInStep (Option Unit×Nat)):=do
 let r <- countRun' lo (size-lo)
 match r with
 | some found =>
  if found<mr then do
   liftM (rule "list.sort.binary-insertion")
   let b <- binarySort' lo (min (size-lo) mr) found
   if (!b)=true then pure (.done (some (),lo)) else Bo size lo (min (size-lo) mr)
  else Bo size lo found
 | _=>pure (.done (some (),lo))
noncomputable def Gy (size mr:Nat):StateT SortSt Sem Unit:=do
 let c <- forIn [0:size] ((none,0):Option Unit×Nat) λ_ c=>if c.2>=size then pure (.done (none,c.2)) else HB size mr c.2
 match c.1 with
 | some r=>pure r
 | none=>G0 size
theorem FP:sortRuns'=(do
  let s <- get
  Gy (arrOf s).size (minRun' (arrOf s).size (arrOf s).size 0)):=by kernel_rfl
section
variable (an:qg (model prog w) A E s lt ok κ) {W:List Keyed} (oW:∀x∈W,ok x)
include an oW
theorem F3 {st:SortSt} {c:List Keyed} (h:SI lt κ W st c []) {Q:Unit->SortSt->Prop} (hQ:∀c st',failedOf st'=none->(arrOf st').toList=c->qf lt W c->Q () st'):wpS (model prog w) A E s (G0 W.length) Q st:=by
 have done:∀ {st'},(∃c,SI lt κ W st' c [])->(pendingOf st').size<=1->Q () st':=λ{st'} ⟨c,h⟩ hs=>by
  haveI hm:=h.m
  haveI ha:=h.a
  rw [List.append_nil] at hm ha
  refine hQ c st' h.f ha ⟨?_,hm⟩
  haveI hs:(pendingOf st').toList.length<=1:=hs
  haveI hp:=h.p
  generalize (pendingOf st').toList=p at hs hp
  match p,hs,hp with
  | [],_,hp=>rw [show c=[] from hp];exact .nil
  | [_],_,⟨u,_,e,_,_,_,g,rfl⟩=>rw [e,List.append_nil];exact g
 unfold G0
 refine wpS_bind (wpS_forRange (I:=λx b st'=>b=(none,())/\ ∃c,SI lt κ W st' c []/\(pendingOf st').size+x<=W.length+1) ?step ?gZ ⟨rfl,c,h,?init⟩)
 case init =>
  haveI:=D4 h.p
  haveI e:=h.m.length_eq
  rw [List.append_nil] at e
  rw [<- e,Nat.add_zero];exact Nat.le_succ_of_le this
 case gZ =>
  rintro b st' ⟨rfl,c,h,hs⟩
  rw [Nat.max_eq_right (Nat.zero_le _),Nat.add_comm] at hs
  exact wpS_pure (done ⟨c,h⟩ (Nat.le_of_add_le_add_left hs))
 case step =>
  rintro x b st' _ hx ⟨rfl,c,h,hs⟩
  refine wpS_bind (wpS_get ?_)
  by_cases hp:(pendingOf st').size<=1
  ·exact fn hp (wpS_pure (wpS_pure (done ⟨c,h⟩ hp)))
  ·refine dM hp (wpS_bind (BM an oW h (FG hp) λc' st2 h2 hl hs2=> ?_))
   refine dM aa5 (wpS_pure ⟨rfl,c',h2,?_⟩)
   rw [<- Nat.add_assoc,Nat.add_right_comm,hs2];exact hs
theorem BN {st:SortSt} {c u r:List Keyed} (h:SI lt κ W st c (u++r)) (h1:1<=u.length) (hu:u.Pairwise (Le lt)) {Q:ForInStep (Option Unit×Nat)->SortSt->Prop} (hQ:∀d st',SI lt κ W st' d r->d.length=c.length+u.length->Q (.yield (none,d.length)) st') :
  wpS (model prog w) A E s (FM c.length u.length) Q st:=by
 unfold FM
 refine wpS_bind (wpS_modify (wpS_pure ?_))
 have hl:(c++u).length=c.length+u.length:=aac
 rw [<- hl]
 refine hQ (c++u) _ ⟨h.k,h.f,?_,?_,?_⟩ hl
 ·show (arrOf st).toList=_
  rw [h.a,aad]
 ·rw [aad];exact h.m
 ·show Pd lt ((pendingOf st).push _).toList 0 _
  rw [Array.toList_push]
  exact Aq h.p ⟨u,[],(List.append_nil u).symm,(aa6 _).symm,rfl,h1,hu,rfl⟩
theorem F2 {st:SortSt} {c u r:List Keyed} (h:SI lt κ W st c (u++r)) (h1:1<=u.length) (hu:u.Pairwise (Le lt)) {pw:Nat} {Q:ForInStep (Option Unit×Nat)->SortSt->Prop} (hQ:∀d st',SI lt κ W st' d r->d.length=c.length+u.length->Q (.yield (none,d.length)) st') :
  wpS (model prog w) A E s (GY W.length c.length u.length pw) Q st:=by
 unfold GY
 refine wpS_bind (wpS_mono (wpS_forRange (I:=λx b st'=>b=(none,())/\ ∃d,SI lt κ W st' d (u++r)/\d.length=c.length) (Q:=λb st'=>b=(none,())/\ ∃d,SI lt κ W st' d (u++r)/\d.length=c.length) ?step (λ_ _ h=>h) ⟨rfl,c,h,rfl⟩) ?post)
 case step =>
  rintro x b st' _ hx ⟨rfl,d,h,hl⟩
  refine wpS_bind (wpS_get ?_)
  unfold Ix
  by_cases hp:(pendingOf st').size>1
  ·rw [if_pos hp]
   obtain ⟨y,hy⟩:∃y,(pendingOf st')[(pendingOf st').size-2]? = some y:=⟨_,Array.getElem?_eq_getElem (Nat.sub_lt (Nat.lt_of_succ_lt hp) ∅)⟩
   rw [hy]
   obtain ⟨y1,y2,y3⟩:=y
   dsimp only
   by_cases hq:y3<=pw
   ·exact fn hq (wpS_pure ⟨rfl,d,h,hl⟩)
   ·refine dM hq (wpS_bind (BM an oW h (aG 0x1190c11290c211 [_,_] rfl (aaa (aG 0x290019111 [_] rfl hp))) λc' st2 h2 hl2 hs2=> ?_))
    exact dM aa5 (wpS_pure ⟨rfl,c',h2,hl2.trans hl⟩)
  ·rw [if_neg hp]
   exact wpS_pure ⟨rfl,d,h,hl⟩
 case post =>
  rintro b st' ⟨rfl,d,h,hl⟩
  refine wpS_bind (wpS_modify ?_)
  rw [<- hl]
  refine BN an oW (st:=setPending st' ((pendingOf st').modify ((pendingOf st').size-1) (El pw))) ⟨h.k,h.f,h.a,h.m,?_⟩ h1 hu λd' st2 h2 hl2=>hQ d' st2 h2 (by rw [hl2,hl])
  show Pd lt ((pendingOf st').modify _ _).toList 0 _
  rw [Array.toList_modify]
  exact D5 (f:=El pw) (λ_=>⟨rfl,rfl⟩) h.p
theorem zI {st:SortSt} {c u r:List Keyed} (h:SI lt κ W st c (u++r)) (h1:1<=u.length) (hu:u.Pairwise (Le lt)) {Q:ForInStep (Option Unit×Nat)->SortSt->Prop} (hQ:∀d st',SI lt κ W st' d r->d.length=c.length+u.length->Q (.yield (none,d.length)) st') :
  wpS (model prog w) A E s (Bo W.length c.length u.length) Q st:=by
 unfold Bo
 refine wpS_bind (wpS_get ?_)
 cases (pendingOf st).back? with
 | none=>exact BN an oW h h1 hu hQ
 | some y=>exact F2 an oW h h1 hu hQ
theorem ET {st:SortSt} {c r:List Keyed} {mr:Nat} (h:SI lt κ W st c r) (hr:¬c.length>=W.length) {Q:ForInStep (Option Unit×Nat)->SortSt->Prop} (hQ:∀d r' st',SI lt κ W st' d r'->c.length<d.length->Q (.yield (none,d.length)) st') :
  wpS (model prog w) A E s (HB W.length mr c.length) Q st:=by
 have hl:=h.m.length_eq
 rw [aac] at hl
 haveI hl2:W.length-c.length=r.length:=by rw [<- hl,aaF]
 haveI hr1:1<=r.length:=aG 0x2190021c3110412 [_,_,_] rfl hr hl
 have or:∀x∈r,ok x:=λx hx=>oW x (h.m.mem_iff.mp (aat _ hx))
 unfold HB
 rw [hl2]
 refine wpS_bind (CC an h.k h.a or hr1 λD T st' S ha hp h1 hs=> ?_)
 have hp':(c++(D++T)).Perm W:=(hp.append_left c).trans h.m
 have I:SI lt κ W st' c (D++T):=⟨by rw [S.k];exact h.k,by rw [S.f];exact h.f,ha,hp',by rw [S.p];exact h.p⟩
 dsimp only
 by_cases hm:D.length<mr
 ·refine fn hm (wpS_bind (wpS_lift (wpAny_rule ⟨rfl,?_⟩)))
  have hrl:r.length=(D++T).length:=hp.length_eq.symm
  have hu:((D++T).take (min r.length mr)).length=min r.length mr:=by rw [List.length_take,<- hrl];exact Nat.min_eq_left (Nat.min_le_left _ _)
  have hD:D.length<=min r.length mr:=Nat.le_min.mpr ⟨by rw [hrl,aac];exact aaK _ _,Nat.le_of_lt hm⟩
  haveI htk:((D++T).take (min r.length mr)).take D.length=D:=by rw [List.take_take,Nat.min_eq_left hD,List.take_left]
  have htd:=aa0 (min r.length mr) (D++T)
  generalize (D++T).take (min r.length mr)=u at hu htk htd
  generalize (D++T).drop (min r.length mr)=R at htd
  rw [<- htd] at ha hp' hp
  rw [<- hu]
  refine wpS_bind (AG an I.k (P:=c) (u:=u) (R:=R) ha (λx hx=>or x (hp.mem_iff.mp (aaE _ hx))) h1 (by rw [hu];exact hD) (by rw [htk];exact hs) λm st2 S2 ha2 hm2=> ?_)
  refine dM aa5 ?_
  rw [<- hm2.2.length_eq]
  have h1m:1<=m.length:=by rw [hm2.2.length_eq,hu];exact aam h1 hD
  refine zI an oW ⟨by rw [S2.k];exact I.k,by rw [S2.f];exact I.f,ha2,((hm2.2.append_right R).append_left c).trans hp',by rw [S2.p];exact I.p⟩ h1m hm2.1 λd st3 h3 hl3=>hQ d _ st3 h3 ?_
  rw [hl3];exact Nat.lt_add_of_pos_right h1m
 ·refine dM hm (zI an oW I h1 hs λd st3 h3 hl3=>hQ d _ st3 h3 ?_)
  rw [hl3];exact Nat.lt_add_of_pos_right h1
theorem EU {st:SortSt} (hk:kindOf st=κ) (hf:failedOf st=none) (hp:pendingOf st = #[]) (ha:(arrOf st).toList=W) {Q:Unit->SortSt->Prop}
  (hQ:∀c st',failedOf st'=none->(arrOf st').toList=c->qf lt W c->Q () st'):wpS (model prog w) A E s sortRuns' Q st:=by
 have done:∀ {st' d r},SI lt κ W st' d r->W.length<=d.length->SI lt κ W st' d []:=λ{st' d r} h hl=>by
  haveI:=h.m.length_eq
  rw [aac] at this
  haveI:r=[]:=List.eq_nil_of_length_eq_zero (aaf (aG 0x920021c2110012 [_,_,_] rfl hl this) (aG 0x900 [_] rfl))
  rw [this] at h;exact h
 rw [FP]
 refine wpS_bind (wpS_get ?_)
 haveI hsz:(arrOf st).size=W.length:=by rw [<- ha];rfl
 rw [hsz]
 unfold Gy
 refine wpS_bind (wpS_mono (wpS_forRange (I:=λx b st'=> ∃d r,b=(none,d.length)/\SI lt κ W st' d r/\x<=d.length) (Q:=λb st'=>b.1=none/\ ∃d,SI lt κ W st' d []) ?step ?gZ ⟨[],W,rfl,⟨hk,hf,ha,.refl _,by rw [hp];rfl⟩,Nat.zero_le _⟩) ?post)
 case post =>
  rintro ⟨b1,b2⟩ st' ⟨hc,d,h⟩
  cases hc
  exact F3 an oW h hQ
 case gZ =>
  rintro _ st' ⟨d,r,rfl,h,hx⟩
  rw [Nat.max_eq_right (Nat.zero_le _)] at hx
  exact ⟨rfl,d,done h hx⟩
 case step =>
  rintro x _ st' hx1 hx2 ⟨d,r,rfl,h,hx⟩
  by_cases hr:d.length>=W.length
  ·exact fn hr (wpS_pure ⟨rfl,d,done h hr⟩)
  ·exact dM hr (ET an oW h hr λd' r' st2 h2 hl=>⟨d',r',rfl,h2,Nat.lt_of_le_of_lt hx hl⟩)
end
end
end
theorem CE {A:Around} {E:Value->Shared->Prop} {s:Shared} {lt:Keyed->Keyed->Bool} {ok:Keyed->Prop} {κ:SortKind} (an:qg G.M A E s lt ok κ) {W:List Keyed} (oW:∀x∈W,ok x) {st:SortSt} (hk:kindOf st=κ) (hf:failedOf st=none) (hp:pendingOf st = #[]) (ha:(arrOf st).toList=W) {Q:Unit->SortSt->Prop}
  (hQ:∀c st',failedOf st'=none->(arrOf st').toList=c->qf lt W c->Q () st'):wpS G.M A E s sortRuns' Q st :=
 (Classical.byContradiction λn=> @Classical.epsilon_spec TT (λt=> ¬t.Goal) ⟨⟨A,E,s,lt,ok,κ⟩,n⟩ λan W oW st hk hf hp ha Q hQ=>EU an oW hk hf hp ha hQ:TT.Goal ⟨A,E,s,lt,ok,κ⟩) an W oW st hk hf hp ha Q hQ
mutual
noncomputable def aL (ι:List Addr) (h:Heap):V->Value->Prop
 | .none,cv=>cv= .none
 | .bool b,cv=>cv= .bool b
 | .int i,cv=> ∃t,cv= .int i t
 | .str x,cv=> ∃t,cv= .str (Str.ofString x) t
 | .ref i,cv=> ∃a,ι[i]? = some a/\cv= .ref a
 | .inst c i,cv=> ∃a x C o,ι[i]? = some a/\G.cls c=some C/\cv= .ref x/\h.get? x=some o/\o.cls= .ref C/\o.dict=some a/\o.data= .plain
 | .exc c,cv=> ∃x C o,G.xcl c=some C/\cv= .ref x/\h.get? x=some o/\o.cls= .ref C/\ ∃vs,o.data= .fields vs
 | .scr,cv=>cv= .ref G.sa
 | .tup xs,cv=> ∃a vs,cv= .ref a/\IsTup h a vs.toArray/\aM ι h xs vs
noncomputable def aM (ι:List Addr) (h:Heap):List V->List Value->Prop
 | [],vs=>vs=[]
 | x::xs,vs=> ∃v vs',vs=v::vs'/\aL ι h x v/\aM ι h xs vs'
end
noncomputable def jJ (ι:List Addr) (h:Heap):List (Int×V)->List (Int×Value)->Prop
 | [],vs=>vs=[]
 | x::xs,vs=> ∃v vs',vs=(x.1,v)::vs'/\aL ι h x.2 v/\jJ ι h xs vs'
noncomputable def qi (ι:List Addr) (h:Heap):List (String×V)->List DictEntry->Prop
 | [],es=>es=[]
 | x::xs,es=> ∃t v es',es=⟨PyData.keyHash G.w.params (Str.ofString x.1),.str (Str.ofString x.1) t,v⟩::es'/\aL ι h x.2 v/\qi ι h xs es'
noncomputable def o8 (ι:List Addr) (h:Heap) (a:Addr):O->Prop
 | .list xs=> ∃vs:List Value,h.PlainList a vs.toArray/\aM ι h xs vs
 | .dict es=> ∃kvs,h.DictOf (intKind G.prog G.w) a kvs/\jJ ι h es kvs
 | .flds fs=> ∃es n,h.get? a=some (dictOf es n)/\qi ι h fs es
structure er (ι:List Addr) (H:Hp) (h:Heap):Prop where
 keep:G.hB.StaysIn h
 len:ι.length=H.length
 nodup:ι.Nodup
 fresh:∀a∈ι,G.hB.get? a=none
 obj:∀(i:Nat) (a:Addr) (o:O),ι[i]? = some a->H[i]? = some o->o8 ι h a o
noncomputable def own (env:Env):List Addr:=env.locals::env.cells.map (·.2)
structure jK (env:Env) (l:bk) (ι:List Addr) (hv hl:Heap):Prop where
 kind:env.scope.kind= .function
 glob:env.globals=mainGlobals
 blt:env.builtins=builtinsNs
 loc:∃m,hl.Ns env.locals m/\ ∀x v,l x=some v->env.kindOf (Str.ofString x)=some .local-> ∃cv,m (Str.ofString x)=some cv/\aL ι hv v cv
 cel:∀x v,l x=some v->(env.kindOf (Str.ofString x)=some .cell\/env.kindOf (Str.ofString x)=some .free) ->
  ∃c o cv,env.cells.lookup (Str.ofString x)=some c/\hv.get? c=some o/\o.data= .cell (some cv)/\aL ι hv v cv
 cells:∀p∈env.cells,∃o ov,hv.get? p.2=some o/\o.data= .cell ov
 ndup:(env.cells.map (·.2)).Nodup
 dis:∀a∈own env,a∉ι
 fresh:∀a∈own env,G.hB.get? a=none
def CH (o:Obj):Prop:=(∃n,o.cls= .type n/\n ≠ "tuple")\/(∃es n,o.data= .dict es n)\/ ∃v,o.data= .cell v
def zL (h h':Heap):Prop:= ∀a o,h.get? a=some o-> ∃o',h'.get? a=some o'
theorem zL.refl (h:Heap):zL h h:=λ_ o e=>⟨o,e⟩
theorem zL.trans {h h' h'':Heap} (x:zL h h') (y:zL h' h''):zL h h'':=λa o e=>let ⟨o',e'⟩:=x a o e;y a o' e'
theorem zL.of_stays {h h':Heap} (k:h.StaysIn h'):zL h h':=λ_ o e=>⟨o,k _ o e⟩
structure Kp (W fr:List Addr) (h h':Heap):Prop where
 size:zL h h'
 up:∀a o,h.get? a=some o->a∉W-> ∃sl,h'.get? a=some { o with slots:=sl }
 ex:∀a o,h.get? a=some o->a∉W->a∉fr->h'.get? a=some o
def nE (h h':Heap):Prop:= ∀a o,h.get? a=some o-> ¬CH o-> ∃sl,h'.get? a=some { o with slots:=sl }
noncomputable def kx (A:Around):List Addr:=(A.frames.getD []).filterMap (·.frame)
theorem nE.refl (h:Heap):nE h h:=λ_ o e _=>⟨o.slots,e⟩
theorem nE.of_stays {h h':Heap} (k:h.StaysIn h'):nE h h':=λ_ o e _=>⟨o.slots,k _ o e⟩
def rX (A:Around) (h:Heap):Prop:= ∀v,A.handled=some v-> ∃e o C vs,v= .ref e/\h.get? e=some o/\o.cls= .ref C/\o.data= .fields vs/\vs[2]? = some .none
theorem rX.imm {A:Around} {h h':Heap} (x:rX A h) (k:nE h h'):rX A h':=λv hv=>by
 refine bS λY9 y9=> ?_
 obtain ⟨e,o,C,vs,h1,h2,h3,h4,h5⟩:=x v hv
 obtain ⟨sl,e1⟩:=k e o h2 λm=>by
  rcases m with ⟨n,q,_⟩ | ⟨es,n,q⟩ | ⟨w,q⟩
  ·rw [h3] at q;cases q
  ·rw [h4] at q;cases q
  ·rw [h4] at q;cases q
 refine y9 ?_
 exact ⟨e,_,C,vs,h1,e1,h3,h4,h5⟩
section
variable {ι ι':List Addr} {h h':Heap}
theorem getElem?_prefix {α:Type} {l l':List α} (p:l<+:l') {i:Nat} {a:α} (e:l[i]? = some a):l'[i]? = some a:=by
 obtain ⟨t,rfl⟩:=p
 rw [aaw (aab.mp e).1];exact e
theorem xm {o:Obj} {C:Value} (e:o.cls=C) (h1:∀n,C= .type n->n = "tuple") (h2:(∀es n,o.data≠ .dict es n)/\ ∀v,o.data≠ .cell v):¬CH o:=λm =>
 m.elim (λ⟨n,q,q2⟩=>q2 (h1 n (e.symm.trans q))) λm=>m.elim (λ⟨es,n,q⟩=>h2.1 es n q) λ⟨v,q⟩=>h2.2 v q
mutual
theorem aL.mono (p:ι<+:ι') (k:nE h h'):∀ {v:V} {cv:Value},aL ι h v cv->aL ι' h' v cv
 | .none,_,x=>x
 | .bool _,_,x=>x
 | .int _,_,x=>x
 | .str _,_,x=>x
 | .scr,_,x=>x
 | .ref _,_,x=>by obtain ⟨a,e,q⟩:=x;exact ⟨a,getElem?_prefix p e,q⟩
 | .inst _ _,_,x=>by
  refine bS λY9 y9=> ?_
  obtain ⟨a,x,C,o,e,hc,q,ho,oc,od,oda⟩:=x
  obtain ⟨sl,hs⟩:=k x o ho (xm oc (λ_ h=>(nomatch h)) ⟨λ_ _ h=>(nomatch oda.symm.trans h),λ_ h=>(nomatch oda.symm.trans h)⟩)
  refine y9 ?_
  exact ⟨a,x,C,_,getElem?_prefix p e,hc,q,hs,oc,od,oda⟩
 | .exc _,_,x=>by
  refine bS λY9 y9=> ?_
  obtain ⟨x,C,o,hc,q,ho,oc,vs,od⟩:=x
  obtain ⟨sl,hs⟩:=k x o ho (xm oc (λ_ h=>(nomatch h)) ⟨λ_ _ h=>(nomatch od.symm.trans h),λ_ h=>(nomatch od.symm.trans h)⟩)
  refine y9 ?_
  exact ⟨x,C,_,hc,q,hs,oc,vs,od⟩
 | .tup _,_,x=>by
  refine bS λY9 y9=> ?_
  obtain ⟨a,vs,q,⟨o,ho,oc,n,od⟩,hs⟩:=x
  obtain ⟨sl,h2⟩:=k a o ho (xm oc (λ_ h=>(Value.type.inj h).symm) ⟨λ_ _ h=>(nomatch od.symm.trans h),λ_ h=>(nomatch od.symm.trans h)⟩)
  refine y9 ?_
  exact ⟨a,vs,q,⟨_,h2,oc,n,od⟩,aM.mono p k hs⟩
theorem aM.mono (p:ι<+:ι') (k:nE h h'):∀ {vs:List V} {cvs:List Value},aM ι h vs cvs->aM ι' h' vs cvs
 | [],_,x=>x
 | _::_,_,x=>by obtain ⟨v,vs',q,a,b⟩:=x;exact ⟨v,vs',q,aL.mono p k a,aM.mono p k b⟩
end
theorem GC:aL ι h .none .none:=rfl
theorem uT (b:Bool):aL ι h (.bool b) (.bool b):=rfl
theorem zt (i:Int) (t:Tok):aL ι h (.int i) (.int i t):=⟨t,rfl⟩
theorem xO:aM ι h [] []:=rfl
theorem og {v:V} {cv:Value} {vs:List V} {cvs:List Value} (a:aL ι h v cv) (b:aM ι h vs cvs):aM ι h (v::vs) (cv::cvs):=⟨cv,cvs,rfl,a,b⟩
theorem jJ.mono (p:ι<+:ι') (k:nE h h'):∀ {vs:List (Int×V)} {cvs:List (Int×Value)},jJ ι h vs cvs->jJ ι' h' vs cvs
 | [],_,x=>x
 | _::_,_,z2=>by obtain ⟨v,vs',q,a,b⟩:=z2;exact ⟨v,vs',q,a.mono p k,jJ.mono p k b⟩
theorem qi.mono (p:ι<+:ι') (k:nE h h'):∀ {vs:List (String×V)} {cvs:List DictEntry},qi ι h vs cvs->qi ι' h' vs cvs
 | [],_,x=>x
 | _::_,_,z2=>by obtain ⟨t,v,vs',q,a,b⟩:=z2;exact ⟨t,v,vs',q,a.mono p k,qi.mono p k b⟩
theorem aM.length:∀ {vs:List V} {cvs:List Value},aM ι h vs cvs->cvs.length=vs.length
 | [],_,x=>by rw [show _=_ from x];rfl
 | _::_,_,z2=>by obtain ⟨_,_,q,_,b⟩:=z2;rw [q,aau,aau,aM.length b]
theorem aM.get:∀ {vs:List V} {cvs:List Value},aM ι h vs cvs-> ∀ {i:Nat} {v:V},vs[i]? = some v-> ∃cv,cvs[i]? = some cv/\aL ι h v cv
 | [],_,_,_,_,e=>by simp at e
 | x::xs,_,z2,i,w,e=>by
  obtain ⟨v,vs',q,a,b⟩:=z2
  subst q
  cases i with
  | zero=>simp at e;subst e;exact ⟨v,rfl,a⟩
  | succ i=>simpa using aM.get b (by simpa using e)
theorem aM.append:∀ {vs:List V} {cvs:List Value},aM ι h vs cvs-> ∀ {ws:List V} {cws:List Value},aM ι h ws cws->aM ι h (vs++ws) (cvs++cws)
 | [],_,x,_,_,y=>by rw [show _=[] from x];exact y
 | _::_,_,z2,_,_,y=>by obtain ⟨v,vs',q,a,b⟩:=z2;subst q;exact ⟨v,_,rfl,a,aM.append b y⟩
theorem aM.set:∀ {vs:List V} {cvs:List Value},aM ι h vs cvs-> ∀(i:Nat) {w:V} {cw:Value},aL ι h w cw->aM ι h (vs.set i w) (cvs.set i cw)
 | [],_,x,_,_,_,_=>by rw [show _=[] from x];rfl
 | _::_,_,z2,0,_,_,y=>by obtain ⟨v,vs',q,a,b⟩:=z2;subst q;exact ⟨_,_,rfl,y,b⟩
 | _::_,_,z2,i+1,_,_,y=>by obtain ⟨v,vs',q,a,b⟩:=z2;subst q;exact ⟨_,_,rfl,a,aM.set b i y⟩
theorem aM.take:∀ {vs:List V} {cvs:List Value},aM ι h vs cvs-> ∀(n:Nat),aM ι h (vs.take n) (cvs.take n)
 | [],_,x,n=>by rw [show _=[] from x];simp [aM]
 | _::_,_,z2,0=>by obtain ⟨v,vs',q,a,b⟩:=z2;simp [aM]
 | _::_,_,z2,n+1=>by obtain ⟨v,vs',q,a,b⟩:=z2;subst q;exact ⟨_,_,rfl,a,aM.take b n⟩
theorem aM.drop:∀ {vs:List V} {cvs:List Value},aM ι h vs cvs-> ∀(n:Nat),aM ι h (vs.drop n) (cvs.drop n)
 | [],_,x,n=>by rw [show _=[] from x];simp [aM]
 | _::_,_,z2,0=>by obtain ⟨v,vs',q,a,b⟩:=z2;exact ⟨v,vs',q,a,b⟩
 | _::_,_,z2,n+1=>by obtain ⟨v,vs',q,a,b⟩:=z2;subst q;exact aM.drop b n
end
def nz (fs:List Env) (ι:List Addr) (h:Heap):Prop :=
 ∀env∈fs,env.scope.kind≠ .module/\ ∃L o,env.frame=some L/\h.get? L=some o/\(∃es n,o.data= .dict es n)/\L∉ι/\G.hB.get? L=none
structure ROk (hq:Bool) (k:Nat) (A:Around):Prop where
 hd:hq=true->A.handled=none
 depth:A.depth+3*k<=800
 units:A.units+50*k<=9000
structure lv (hq:Bool) (k:Nat) (A:Around) (env:Env):Prop extends ROk hq k A where
 fr:∃fenv rest,A.frames=some (fenv::rest)/\fenv.frame=env.frame/\fenv.scope.isGenerator=false/\fenv.scope.isCoroutine=false/\fenv.builtins=builtinsNs/\fenv.globals=mainGlobals
structure cC (A:Around) (env:Env) (ι:List Addr) (q:S) (s:Shared):Prop where
 st:er ι q.H s.heap
 fr:jK env q.l ι s.heap s.heap
 fs:nz (A.frames.getD []) ι s.heap
 gens:s.gens = #[]
 os:s.os=G.os
 hn:rX A s.heap
structure aR (A:Around) (env:Env) (ι:List Addr) (s:Shared) (ι':List Addr) (q':S) (s':Shared):Prop where
 pre:ι<+:ι'
 rel:cC A env ι' q' s'
 kp:Kp (own env++ι) (kx A) s.heap s'.heap
 new:∀a∈ι',a∈ι\/s.heap.get? a=none
inductive xT (B:Heap) (fs:List Env) (e:Addr) (C fl:Value) (h:Heap):Prop
 | mk (k:B.StaysIn h) (n:B.get? e=none) (f:h.FunFrames B fs) (oe:Obj) (vs:Array Value) (a0:Value) (T:Addr) (oT:Obj) (ts:Array Value) (he:h.get? e=some oe) (hc:oe.cls=C) (hd:oe.data= .fields vs)
   (h0:vs[0]? = some a0) (h2:vs[2]? = some .none) (h1:vs[1]? = some (.ref T)) (nT:B.get? T=none) (Te:T≠e) (hT:h.get? T=some oT) (dT:oT.data= .fields ts) (h3:ts[3]? = some fl)
section
variable {M:Model} {A:Around} {E:Value->Shared->Prop} {s:Shared} {B:Heap} {fs:List Env} {e:Addr} {C fl:Value}
theorem qR {T:Addr} {oT:Obj} {ts:Array Value} {h:Heap} (i:Nat) (x:Value) (hT:h.get? T=some oT) (dT:oT.data= .fields ts) (hk:B.StaysIn h) (nT:B.get? T=none) (hf:h.FunFrames B fs) :
  ∃h',A6 (h'=h.update T (Obj.mapFields (·.setIfInBounds i x))) (B.StaysIn h') (h'.FunFrames B fs) (h.UpToSlots h') (∀b,b≠T->h'.get? b=h.get? b) (∃o',h'.get? T=some o'/\o'.cls=oT.cls/\o'.data= .fields (ts.setIfInBounds i x)):=by
 have oth:∀b,b≠T->(h.update T (Obj.mapFields (·.setIfInBounds i x))).get? b=h.get? b:=λb hb=>Heap.get?_update_other _ _ (Ne.symm hb)
 have nr:∀b o,h.get? b=some o->(∀vs,o.data≠ .fields vs)->b≠T:=λb o hb hn q=>by rw [q,hT] at hb;cases hb;exact hn ts dT
 exact ⟨_,rfl,λb o hb=>(oth b λq=>by rw [q,nT] at hb;cases hb).trans (hk b o hb),hf.of_keeps λb o hb hn=>⟨o,(oth b (nr b o hb hn)).trans hb,rfl⟩,λb o hb hn=>⟨o.slots,(oth b (nr b o hb hn)).trans hb⟩,oth,
  _,Heap.get?_update_self _ hT (Obj.isFreed_of_fields (Obj.data_mapFields dT _)),Obj.cls_mapFields _ _,Obj.data_mapFields dT _⟩
theorem wf {Q:Unit->Shared->Prop} (x:xT B fs e C fl s.heap) (hQ:∀h',xT B fs e C .none h'->s.heap.UpToSlots h'->Q () { s with heap:=h' }):wpAny M A (setFlight (.ref e) none) Q E s:=by
 cases x with
 | mk k n f oe vs a0 T oT ts he hc hd h0 h2 h1 nT Te hT dT h3 =>
 have z:=(Array.getElem?_eq_some_iff.mp h3).1
 refine bS λY9 y9=> ?_
 obtain ⟨h',eh,k',f',u,oth,o',g1,g2,g3⟩:=qR 3 .none hT dT k nT f
 refine y9 ?_
 unfold setFlight
 refine wpAny_bind (wpAny_field he hd h1 ?_)
 rw [if_pos (show (Value.ref T != Value.none)=true from by simp)]
 refine wpAny_setField hT dT z ?_
 show Q () { s with heap:=s.heap.update T (Obj.mapFields (·.setIfInBounds 3 .none)) }
 rw [<- eh]
 exact hQ h' ⟨k',n,f',oe,vs,a0,T,o',_,(oth e (Ne.symm Te)).trans he,hc,hd,h0,h2,h1,nT,Te,g1,g3,by simp [z]⟩ u
theorem wd {env:Env} {outer:List Env} {L:Addr} {oe:Obj} {vs:Array Value} {head a0:Value} {hadNext:Bool} {Q:Unit->Shared->Prop} (hfr:A.frames=some (env::outer)) (hl:s.heap.FunFrames B (env::outer)) (hf:env.frame=some L)
  (he:s.heap.get? e=some oe) (hkb:B.StaysIn s.heap) (hen:B.get? e=none) (hd:oe.data= .fields vs) (h0:vs[0]? = some a0) (h2:vs[2]? = some .none)
  (h:∀h',xT B (env::outer) e oe.cls (rawInt L) h'->s.heap.UpToSlots h'->Q () { s with heap:=h' }) :
  wpAny M A (do let a <- frameOf env;let pl <- entryPlaceOf L hadNext;let b <- EntryCells.newEntry head a .none (rawInt L) .none pl;setField (.ref e) 1 b) Q E s:=by
 haveI ne:e∉(env::outer).filterMap (·.frame):=λhm=>by
  refine bS λY9 y9=> ?_
  obtain ⟨_,o,ho,hn⟩:=hl.mem hm
  refine y9 ?_
  rw [he] at ho;cases ho;exact hn vs hd
 have sz:1<vs.size:=Nat.lt_trans ∅ (Array.getElem?_eq_some_iff.mp h2).1
 refine wpAny_bind (wpAny_frameOf_fun hfr hl hf λh₁ hs=> ?_)
 refine wpAny_bind (wpAny_entryPlaceOf λpl hpl=> ?_)
 unfold EntryCells.newEntry newFields
 refine wpAny_bind (wpAny_newObj_type ?_ (hpl.sizeOk5 _ _ _ _ _))
 generalize hob:({ cls:= .type "traceback",dict:=none,data:= .fields ([head,.ref L,.none,rawInt L,.none]++(if pl.isEmpty then List.replicate 6 Value.none else pl)).toArray }:Obj)=tb
 have e1:h₁.get? e=some oe:=(hs.2.1 e ne).trans he
 have up:s.heap.UpToSlots (h₁.push tb):=λb o hb hn=>let ⟨sl,q⟩:=hs.2.2 b o hb;⟨sl,aal _ q⟩
 haveI kb:B.StaysIn (h₁.push tb):=λb o hb=>aal _ ((hs.2.1 b λhm=>by rw [(hl.mem hm).1] at hb;cases hb).trans (hkb b o hb))
 haveI gT:(h₁.push tb).get? h₁.objs.size=some tb:=aaM _ (by rw [<- hob];rfl)
 haveI nT:B.get? h₁.objs.size=none:=by
  cases q:B.get? h₁.objs.size with
  | none=>rfl
  | some o =>
   haveI:=(hs.2.1 h₁.objs.size λhm=>by rw [(hl.mem hm).1] at q;cases q).trans (hkb _ o q)
   exact absurd (Heap.lt_size this) (Nat.lt_irrefl _)
 have Te:h₁.objs.size≠e:=Nat.ne_of_gt (Heap.lt_size e1)
 refine bS λY9 y9=> ?_
 obtain ⟨h',eh,k',f',u,oth,o',g1,g2,g3⟩:=qR 1 (.ref h₁.objs.size) (aal tb e1) hd kb hen (hl.of_keeps λb o hb hn=>let ⟨sl,q⟩:=up b o hb hn;⟨_,q,rfl⟩)
 refine y9 ?_
 refine wpAny_setField (aal tb e1) hd sz ?_
 show Q () { s with heap:=(h₁.push tb).update e (Obj.mapFields (·.setIfInBounds 1 (.ref h₁.objs.size))) }
 rw [<- eh]
 refine h h' ⟨k',hen,f',o',_,a0,h₁.objs.size,tb,([head,.ref L,.none,rawInt L,.none]++(if pl.isEmpty then List.replicate 6 Value.none else pl)).toArray,g1,g2,g3,?_,?_,by simp [sz],nT,Te,(oth _ Te).trans gT,by rw [<- hob],by first | (simp;done) | (rcases hpl with rfl | ⟨_,_,_,_,_,_,_,rfl⟩<;>simp)⟩ (up.trans u)
 ·rw [Array.getElem?_setIfInBounds_ne ∅];exact h0
 ·rw [Array.getElem?_setIfInBounds_ne ∅];exact h2
theorem we {env:Env} {outer:List Env} {L:Addr} {oe:Obj} {vs:Array Value} {a0:Value} {Q:Unit->Shared->Prop} (hfr:A.frames=some (env::outer)) (hl:s.heap.FunFrames B (env::outer)) (hf:env.frame=some L)
  (he:s.heap.get? e=some oe) (hkb:B.StaysIn s.heap) (hen:B.get? e=none) (hd:oe.data= .fields vs) (h0:vs[0]? = some a0) (h1:vs[1]? = some .none) (h2:vs[2]? = some .none)
  (h:∀h',xT B (env::outer) e oe.cls (rawInt L) h'->s.heap.UpToSlots h'->Q () { s with heap:=h' }):wpAny M A (noteFrame (.ref e) env) Q E s:=by
 unfold noteFrame
 simp only [hf]
 refine wpAny_bind (wpAny_field he hd h1 ?_)
 rw [if_neg ∅]
 exact wd hfr hl hf he hkb hen hd h0 h2 h
theorem yr {env:Env} {outer:List Env} {L:Addr} {Q:Unit->Shared->Prop} (hfr:A.frames=some (env::outer)) (hf:env.frame=some L) (x:xT B (env::outer) e C fl s.heap) (hfl:fl= .none\/fl=rawInt L)
  (h:∀h',xT B (env::outer) e C (rawInt L) h'->s.heap.UpToSlots h'->Q () { s with heap:=h' }):wpAny M A (noteFrame (.ref e) env) Q E s:=by
 cases x with
 | mk k n f oe vs a0 T oT ts he hc hd h0 h2 h1 nT Te hT dT h3 =>
 subst hc
 unfold noteFrame
 simp only [hf]
 refine wpAny_bind (wpAny_field he hd h1 ?_)
 rw [if_pos (show (Value.ref T != Value.none)=true from by simp)]
 refine wpAny_bind (wpAny_field hT dT h3 ?_)
 rcases hfl with rfl | rfl
 ·rw [if_neg (show ¬((Value.none==rawInt L)=true) from by simp [rawInt])]
  refine bS λY9 y9=> ?_
  obtain ⟨h',eh,k',f',u,oth,o',g1,g2,g3⟩:=qR 3 .none hT dT k nT f
  refine y9 ?_
  refine wpAny_bind (wpAny_setField hT dT (Array.getElem?_eq_some_iff.mp h3).1 ?_)
  rw [<- eh]
  exact wd (s:={ s with heap:=h' }) hfr f' hf ((oth e (Ne.symm Te)).trans he) k' n hd h0 h2 λh'' y u2=>h h'' y (u.trans u2)
 ·rw [if_pos (show (rawInt L==rawInt L)=true from by simp)]
  exact wpAny_pure (h s.heap ⟨k,n,f,oe,vs,a0,T,oT,ts,he,rfl,hd,h0,h2,h1,nT,Te,hT,dT,h3⟩ (Heap.UpToSlots.refl _))
end
inductive wI (B:Heap) (fs:List Env) (L e:Addr) (C:Value) (h:Heap):Prop
 | made (k:B.StaysIn h) (n:B.get? e=none) (f:h.FunFrames B fs) (oe:Obj) (vs:Array Value) (a0:Value) (he:h.get? e=some oe) (hc:oe.cls=C) (hd:oe.data= .fields vs) (h0:vs[0]? = some a0) (h1:vs[1]? = some .none) (h2:vs[2]? = some .none)
 | fly (fl:Value) (x:xT B fs e C fl h) (hfl:fl= .none\/fl=rawInt L)
theorem wI.keep {B:Heap} {fs:List Env} {L e:Addr} {C:Value} {h:Heap} (x:wI B fs L e C h):B.StaysIn h:=by
 cases x with
 | made k=>exact k
 | fly fl x=>cases x with | mk k=>exact k
inductive JO (fs:List Env) (fa:List Addr) (env:Env) (ι:List Addr) (h:Heap) (c:String) (ι':List Addr) (q':S) (h':Heap) (ev:Value) (e C:Addr) (B:Heap) (L:Addr):Prop
 | mk (z0:ev= .ref e) (z1:G.xcl c=some C) (z2:env.frame=some L) (z3:wI B fs L e (.ref C) h') (z4:er ι' q'.H B) (z5:jK env q'.l ι' B h') (z6:nz fs ι' h') (z7:∀a o,h.get? a=some o->a∉own env++ι->a∉fa->B.get? a=some o)
structure dp (A:Around) (env:Env) (ι:List Addr) (s:Shared) (c:String) (ι':List Addr) (q':S) (s':Shared) (ev:Value):Prop where
 pre:ι<+:ι'
 ex:∃e C B L,JO (A.frames.getD []) (kx A) env ι s.heap c ι' q' s'.heap ev e C B L
 size:zL s.heap s'.heap
 up:∀a o,s.heap.get? a=some o->a∉own env++ι-> ∃sl,s'.heap.get? a=some { o with slots:=sl }
 new:∀a∈ι',a∈ι\/s.heap.get? a=none
 gens:s'.gens = #[]
 os:s'.os=G.os
abbrev PT (β:Type):=(β->Shared->Prop)->(Value->Shared->Prop)->Shared->Prop
abbrev mh {β:Type} (A:Around) (t:Sem β):PT β:=λQ E s=>wpAny G.M A t Q E s
def aP (A:Around) (env:Env) (ι:List Addr) (s:Shared) {α β:Type} (r:sM S α) (REL:List Addr->Heap->α->β->Prop) (T:PT β):Prop :=
 match r with
 | .ok a q'=> ∀Q E,(∀ι' b s',aR A env ι s ι' q' s'->REL ι' s'.heap a b->Q b s')->T Q E s
 | .exc c q'=> ∀Q E,(∀ι' ev s',dp A env ι s c ι' q' s' ev->E ev s')->T Q E s
 | .stuck=>True
def Fin (A:Around) (env:Env) (ι:List Addr) (s:Shared) {α β:Type} (r:sM S α) (REL:List Addr->Heap->α->β->Prop) (Q:β->Shared->Prop) (E:Value->Shared->Prop):Prop :=
 match r with
 | .ok a q''=> ∀ι'' b s'',aR A env ι s ι'' q'' s''->REL ι'' s''.heap a b->Q b s''
 | .exc c q''=> ∀ι'' ev s'',dp A env ι s c ι'' q'' s'' ev->E ev s''
 | .stuck=>False
def Sem.Is (hq:Bool) (k:Nat) (env:Env) {α β:Type} (T:Around->PT β) (m:Cm α) (REL:List Addr->Heap->α->β->Prop):Prop :=
 ∀A ι q s,lv hq k A env->cC A env ι q s->aP A env ι s (m q) REL (T A)
abbrev Ev (hq:Bool) (k:Nat) (env:Env) (e:Expr) (m:Cm V):Prop:=Sem.Is hq k env (λA=>mh A (eval e env)) m (aL)
abbrev Tr (hq:Bool) (k:Nat) (env:Env) (e:Expr) (m:Cm Bool):Prop:=Sem.Is hq k env (λA=>mh A (isTrue e env (eval e env))) m (λ_ _ a b=>a=b)
noncomputable def vT (ι:List Addr) (h:Heap):Fl->Flow->Prop
 | .next,f=>f= .next
 | .ret v,f=> ∃cv,f= .ret cv/\aL ι h v cv
abbrev Ex (hq:Bool) (k:Nat) (env:Env) (st:Stmt) (m:Cm Fl):Prop:=Sem.Is hq k env (λA=>mh A (exec st env)) m (vT)
abbrev CR (hq:Bool) (k:Nat) (env:Env) (st:List Stmt) (m:Cm Fl):Prop:=Sem.Is hq k env (λA=>mh A (execs st env)) m (vT)
section
variable {A:Around} {env:Env} {ι ι' ι'':List Addr} {q q' q'':S} {s s' s'':Shared} {α β γ:Type}
theorem Kp.refl (W fr:List Addr) (h:Heap):Kp W fr h h:=⟨zL.refl _,λ_ o e _=>⟨o.slots,e⟩,λ_ _ e _ _=>e⟩
theorem Kp.of_stays {W fr:List Addr} {h h':Heap} (k:h.StaysIn h'):Kp W fr h h':=⟨zL.of_stays k,λ_ o e _=>⟨o.slots,k _ o e⟩,λ_ _ e _ _=>k _ _ e⟩
theorem qC {a:Addr} {h h':Heap} (n1:∀a∈ι',a∈ι\/h.get? a=none) (sz:zL h h') (n2:∀a∈ι'',a∈ι'\/h'.get? a=none) (ha:a∈ι''):a∈ι\/h.get? a=none :=
 (n2 a ha).elim (n1 a) λx=> .inr (by
  cases e:h.get? a with
  | none=>rfl
  | some o=>obtain ⟨o',e'⟩:=sz a o e;rw [x] at e';cases e')
theorem Bj {W:List Addr} {a:Addr} {o:Obj} {h:Heap} (n1:∀a∈ι',a∈ι\/h.get? a=none) (e:h.get? a=some o) (hW:a∉W++ι):a∉W++ι':=λhm =>
 (aan.mp hm).elim (λx=>hW (aaE _ x)) λx=>(n1 a x).elim (λy=>hW (aat _ y)) λy=>by rw [y] at e;cases e
theorem Kp.trans {W fr:List Addr} {h h' h'':Heap} (n1:∀a∈ι',a∈ι\/h.get? a=none) (x:Kp (W++ι) fr h h') (y:Kp (W++ι') fr h' h''):Kp (W++ι) fr h h'' where
 size:=x.size.trans y.size
 up:=λa o e hW=>by
  obtain ⟨sl,e1⟩:=x.up a o e hW
  obtain ⟨sl2,e2⟩:=y.up a _ e1 (Bj n1 e hW)
  exact ⟨sl2,e2⟩
 ex:=λa o e hW hf=>y.ex a o (x.ex a o e hW hf) (Bj n1 e hW) hf
theorem aR.trans (x:aR A env ι s ι' q' s') (y:aR A env ι' s' ι'' q'' s''):aR A env ι s ι'' q'' s'' where
 pre:=x.pre.trans y.pre
 rel:=y.rel
 kp:=x.kp.trans x.new y.kp
 new:=λ_ ha=>qC x.new x.kp.size y.new ha
theorem aR.transX {c:String} {ev:Value} (x:aR A env ι s ι' q' s') (y:dp A env ι' s' c ι'' q'' s'' ev):dp A env ι s c ι'' q'' s'' ev where
 pre:=x.pre.trans y.pre
 ex:=by
  refine bS λY9 y9=> ?_
  obtain ⟨e,C,B,L,h1,h2,h3,h4,h5,h6,h7,h8⟩:=y.ex
  refine y9 ?_
  exact ⟨e,C,B,L,h1,h2,h3,h4,h5,h6,h7,λa o e hW hf=>h8 a o (x.kp.ex a o e hW hf) (Bj x.new e hW) hf⟩
 size:=x.kp.size.trans y.size
 up:=λa o e hW=>by
  obtain ⟨sl,e1⟩:=x.kp.up a o e hW
  obtain ⟨sl2,e2⟩:=y.up a _ e1 (Bj x.new e hW)
  exact ⟨sl2,e2⟩
 new:=λ_ ha=>qC x.new x.kp.size y.new ha
 gens:=y.gens
 os:=y.os
theorem er.mut (x:er ι q.H s.heap) {a:Addr} (ha:a∈ι):∃o,s.heap.get? a=some o/\CH o:=by
 obtain ⟨i,hi,rfl⟩:=List.mem_iff_getElem.mp ha
 have hi':i<q.H.length:=x.len▸hi
 have:=x.obj i ι[i] q.H[i] (by simp) (by simp)
 cases ho:q.H[i] with
 | list xs=>rw [ho] at this;obtain ⟨vs,⟨n,e⟩,_⟩:=this;exact ⟨_,e,.inl ⟨"list",rfl,by decide⟩⟩
 | dict es=>rw [ho] at this;obtain ⟨kvs,⟨o,es',ep,e,_,hd,_⟩,_⟩:=this;exact ⟨o,e,.inr (.inl ⟨es',ep,hd⟩)⟩
 | flds fs=>rw [ho] at this;obtain ⟨es,n,e,_⟩:=this;exact ⟨_,e,.inr (.inl ⟨_,_,rfl⟩)⟩
theorem jK.mut {l:bk} {hv hl:Heap} (k:∀b o,hv.get? b=some o->hl.get? b=some o) (x:jK env l ι hv hl) {a:Addr} (ha:a∈own env):∃o,hl.get? a=some o/\CH o:=by
 rcases aah.mp ha with rfl | ha
 ·obtain ⟨m,⟨o,es,ep,ho,hd,_⟩,_⟩:=x.loc
  exact ⟨o,ho,.inr (.inl ⟨es,ep,hd⟩)⟩
 ·obtain ⟨p,hp,rfl⟩:=aae.mp ha
  obtain ⟨o,ov,ho,hd⟩:=x.cells p hp
  exact ⟨o,k _ _ ho,.inr (.inr ⟨ov,hd⟩)⟩
theorem cC.imm' (R:cC A env ι q s) {h':Heap} (up:∀a o,s.heap.get? a=some o->a∉own env++ι-> ∃sl,h'.get? a=some { o with slots:=sl }):nE s.heap h':=λa o e hm=>up a o e λhW=>by
 rcases aan.mp hW with h | h
 ·obtain ⟨o',e',hm'⟩:=R.fr.mut (λ_ _ e=>e) h
  rw [e] at e';cases e';exact hm hm'
 ·obtain ⟨o',e',hm'⟩:=R.st.mut h
  rw [e] at e';cases e';exact hm hm'
theorem cC.imm (R:cC A env ι q s) {fr:List Addr} {h':Heap} (k:Kp (own env++ι) fr s.heap h'):nE s.heap h':=R.imm' k.up
theorem aR.vrel {v:V} {cv:Value} (R:cC A env ι q s) (P:aR A env ι s ι' q' s') (x:aL ι s.heap v cv):aL ι' s'.heap v cv:=x.mono P.pre (R.imm P.kp)
theorem aP.mono {r:sM S α} {REL:List Addr->Heap->α->β->Prop} {T:PT β} (P:aR A env ι s ι' q' s') (h:aP A env ι' s' r REL T) {Q:β->Shared->Prop} {E:Value->Shared->Prop}
  (hQ:Fin A env ι s r REL Q E):T Q E s':=by
 cases r with
 | ok a q''=>exact h Q E λι'' b s'' x y=>hQ ι'' b s'' (P.trans x) y
 | exc c q''=>exact h Q E λι'' ev s'' x=>hQ ι'' ev s'' (P.transX x)
 | stuck=>exact hQ.elim
theorem aP.imp {r:sM S α} {REL:List Addr->Heap->α->β->Prop} {T T':PT β} (h:aP A env ι s r REL T) (k:∀Q E,T Q E s->T' Q E s):aP A env ι s r REL T':=by
 cases r with
 | ok a q'=>exact λQ E x=>k _ _ (h Q E x)
 | exc c q'=>exact λQ E x=>k _ _ (h Q E x)
 | stuck=>trivial
theorem aP.b {m:Cm α} {f:α->Cm γ} {β':Type} {REL:List Addr->Heap->α->β->Prop} {REL':List Addr->Heap->γ->β'->Prop} {T:PT β} {T':β->PT β'}
  (h:aP A env ι s (m q) REL T)
  (k:∀a q' ι' b s',m q= .ok a q'->aR A env ι s ι' q' s'->REL ι' s'.heap a b->aP A env ι' s' (f a q') REL' (T' b)) :
  aP A env ι s ((m.b f) q) REL' (λQ E s=>T (λb s₁=>T' b Q E s₁) E s):=by
 unfold Cm.b
 cases hm:m q with
 | stuck=>trivial
 | exc c q' =>
  rw [hm] at h
  exact λQ E x=>h _ E x
 | ok a q' =>
  rw [hm] at h
  dsimp only
  have k':=k a q'
  cases hf:f a q' with
  | stuck=>trivial
  | ok c q'' =>
   intro Q E x
   refine h _ E λι' b s' P R=> ?_
   haveI:=k' ι' b s' hm P R
   rw [hf] at this
   exact this Q E λι'' b' s'' P' R'=>x ι'' b' s'' (P.trans P') R'
  | exc c q'' =>
   intro Q E x
   refine h _ E λι' b s' P R=> ?_
   haveI:=k' ι' b s' hm P R
   rw [hf] at this
   exact this Q E λι'' ev s'' P'=>x ι'' ev s'' (P.transX P')
theorem fT {m:Cm α} {f:α->Cm β} {a:α} (e:m q= .ok a q'):(m.b f) q=f a q':=by unfold Cm.b;rw [e]
theorem cA {m:Cm α} {f:α->Cm β} (e:m q= .stuck):(m.b f) q= .stuck:=by unfold Cm.b;rw [e]
theorem hM {m:Cm α} {f:α->Cm β} {c:String} (e:m q= .exc c q'):(m.b f) q= .exc c q':=by unfold Cm.b;rw [e]
theorem Cj {l:List Addr} (hn:l.Nodup) {i j:Nat} {a:Addr} (hi:l[i]? = some a) (hj:l[j]? = some a):i=j:=by
 obtain ⟨h1,e1⟩:=aab.mp hi
 obtain ⟨h2,e2⟩:=aab.mp hj
 have:=List.pairwise_iff_getElem.mp hn
 rcases Nat.lt_trichotomy i j with h | h | h
 ·exact absurd (e1.trans e2.symm) (this i j h1 h2 h)
 ·exact h
 ·exact absurd (e2.trans e1.symm) (this j i h2 h1 h)
theorem o8.there {h:Heap} {a:Addr} {o:O} (x:o8 ι h a o):∃o',h.get? a=some o':=by
 cases o with
 | list xs=>obtain ⟨vs,⟨n,e⟩,r⟩:=x;exact ⟨_,e⟩
 | dict es=>obtain ⟨kvs,⟨o,es',ep,e,d⟩,r⟩:=x;exact ⟨_,e⟩
 | flds fs=>obtain ⟨es,n,e,r⟩:=x;exact ⟨_,e⟩
theorem o8.stays {h h':Heap} {a:Addr} {o:O} (p:ι<+:ι') (k:h.StaysIn h') (x:o8 ι h a o):o8 ι' h' a o:=by
 have im:=nE.of_stays k
 cases o with
 | list xs=>obtain ⟨vs,⟨n,e⟩,r⟩:=x;exact ⟨vs,⟨n,k _ _ e⟩,r.mono p im⟩
 | dict es=>obtain ⟨kvs,d,r⟩:=x;exact ⟨kvs,d.keep k,r.mono p im⟩
 | flds fs=>obtain ⟨es,n,e,r⟩:=x;exact ⟨es,n,k _ _ e,r.mono p im⟩
theorem o8.at {h h':Heap} {a:Addr} {o:O} (p:ι<+:ι') (im:nE h h') (k:∀o,h.get? a=some o->h'.get? a=some o) (x:o8 ι h a o):o8 ι' h' a o:=by
 cases o with
 | list xs=>obtain ⟨vs,⟨n,e⟩,r⟩:=x;exact ⟨vs,⟨n,k _ e⟩,r.mono p im⟩
 | dict es=>obtain ⟨kvs,⟨o,es',ep,e,d⟩,r⟩:=x;exact ⟨kvs,⟨o,es',ep,k _ e,d⟩,r.mono p im⟩
 | flds fs=>obtain ⟨es,n,e,r⟩:=x;exact ⟨es,n,k _ e,r.mono p im⟩
theorem er.stays {H:Hp} {h h':Heap} (x:er ι H h) (k:h.StaysIn h'):er ι H h' where
 keep:=λb o e=>k b o (x.keep b o e)
 len:=x.len
 nodup:=x.nodup
 fresh:=x.fresh
 obj:=λi a o e1 e2=>(x.obj i a o e1 e2).stays (aaj _) k
theorem jK.stays {l:bk} {hv hl hv' hl':Heap} (x:jK env l ι hv hl) (k:hv.StaysIn hv') (k':hl.StaysIn hl'):jK env l ι hv' hl' where
 kind:=x.kind
 glob:=x.glob
 blt:=x.blt
 loc:=let ⟨m,hn,hm⟩:=x.loc;⟨m,hn.keeps k',λy v e e2=>let ⟨cv,a,b⟩:=hm y v e e2;⟨cv,a,b.mono (aaj _) (.of_stays k)⟩⟩
 cel:=λy v e e2=>let ⟨c,o,cv,a,b,d,f⟩:=x.cel y v e e2;⟨c,o,cv,a,k _ _ b,d,f.mono (aaj _) (.of_stays k)⟩
 cells:=λp hp=>let ⟨o,ov,a,b⟩:=x.cells p hp;⟨o,ov,k _ _ a,b⟩
 ndup:=x.ndup
 dis:=x.dis
 fresh:=x.fresh
theorem nz.stays {fs:List Env} {h h':Heap} (x:nz fs ι h) (k:h.StaysIn h'):nz fs ι h':=λenv he =>
 let ⟨a,L,o,b,c,d⟩:=x env he;⟨a,L,o,b,k _ _ c,d⟩
theorem cC.stays (R:cC A env ι q s) {h':Heap} {tk:Nat} (k:s.heap.StaysIn h'):cC A env ι q { s with heap:=h',toks:=tk } where
 hn:=R.hn.imm (.of_stays k)
 st:=R.st.stays k
 fr:=R.fr.stays k k
 fs:=R.fs.stays k
 gens:=R.gens
 os:=R.os
theorem aR.stays (R:cC A env ι q s) {h':Heap} {tk:Nat} (k:s.heap.StaysIn h'):aR A env ι s ι q { s with heap:=h',toks:=tk } where
 pre:=aaj _
 rel:=R.stays k
 kp:= .of_stays k
 new:=λ_ ha=> .inl ha
theorem aR.refl (R:cC A env ι q s):aR A env ι s ι q s where
 pre:=aaj _
 rel:=R
 kp:= .refl _ _ _
 new:=λ_ ha=> .inl ha
theorem aR.toks (R:cC A env ι q s) (tk:Nat):aR A env ι s ι q { s with toks:=tk }:=aR.stays (h':=s.heap) R λ_ _ e=>e
theorem aP.ret {a:α} {b:β} {REL:List Addr->Heap->α->β->Prop} {T:PT β} {tk:Nat} (R:cC A env ι q s) (hR:REL ι s.heap a b) (hT:∀Q E,Q b { s with toks:=tk }->T Q E s) :
  aP A env ι s (.ok a q) REL T:=λ_ _ x=>hT _ _ (x ι b _ (aR.toks R tk) hR)
theorem aP.ret0 {a:α} {b:β} {REL:List Addr->Heap->α->β->Prop} {T:PT β} (R:cC A env ι q s) (hR:REL ι s.heap a b) (hT:∀Q E,Q b s->T Q E s) :
  aP A env ι s (.ok a q) REL T:=λ_ _ x=>hT _ _ (x ι b _ (aR.refl R) hR)
theorem aP.grew {a:α} {b:β} {REL:List Addr->Heap->α->β->Prop} {T:PT β} {h':Heap} {tk:Nat} (R:cC A env ι q s) (k:s.heap.StaysIn h') (hR:REL ι h' a b)
  (hT:∀Q E,Q b { s with heap:=h',toks:=tk }->T Q E s):aP A env ι s (.ok a q) REL T:=λ_ _ x=>hT _ _ (x ι b _ (aR.stays R k) hR)
theorem cC.fresh_ne (R:cC A env ι q s) {a:Addr} (ha:s.heap.get? a=none):A3 (a∉ι) (a∉own env) (G.hB.get? a=none):=by
 refine ⟨λh=> ?_,λh=> ?_,?_⟩
 ·obtain ⟨o,e,_⟩:=R.st.mut h;rw [ha] at e;cases e
 ·obtain ⟨o,e,_⟩:=R.fr.mut (λ_ _ e=>e) h;rw [ha] at e;cases e
 ·cases e:G.hB.get? a with
  | none=>rfl
  | some o=>have:=R.st.keep _ _ e;rw [ha] at this;cases this
theorem aR.alloc (R:cC A env ι q s) {h':Heap} {tk:Nat} {a:Addr} {o:O} (k:s.heap.StaysIn h') (ha:s.heap.get? a=none) (ho:o8 (ι++[a]) h' a o) :
  aR A env ι s (ι++[a]) { q with H:=q.H++[o] } { s with heap:=h',toks:=tk }:=by
 have pre:ι<+:ι++[a]:=aaz _ _
 have im:=nE.of_stays k
 obtain ⟨n1,n2,n3⟩:=R.fresh_ne ha
 have R':=R.stays (tk:=tk) k
 refine ⟨pre,⟨⟨R'.st.keep,by simp [R.st.len],?_,?_,?_⟩,⟨R'.fr.kind,R'.fr.glob,R'.fr.blt,?_,?_,R'.fr.cells,R'.fr.ndup,?_,R'.fr.fresh⟩,?_,R.gens,R.os,R.hn.imm im⟩,(.of_stays k),?_⟩
 ·exact List.nodup_append.mpr ⟨R.st.nodup,by simp,λx hx y hy=>by simp at hy;subst hy;exact λe=>n1 (e▸hx)⟩
 ·intro x hx
  rcases aan.mp hx with h | h
  ·exact R.st.fresh x h
  ·simp at h;subst h;exact n3
 ·intro i x y e1 e2
  by_cases hi:i<ι.length
  ·rw [aaw hi] at e1
   rw [aaw (R.st.len▸hi)] at e2
   exact (R.st.obj i x y e1 e2).stays pre k
  ·haveI hi':i=ι.length:=by
    haveI:=(aab.mp e1).1
    simp at this;exact aaf (bP 0x100191c0111 this) (bP 0x1010511 hi)
   subst hi'
   simp at e1;subst e1
   rw [R.st.len] at e2;simp at e2;subst e2
   exact ho
 ·obtain ⟨m,hn,hm⟩:=R.fr.loc
  exact ⟨m,hn.keeps k,λy v e e2=>let ⟨cv,a,b⟩:=hm y v e e2;⟨cv,a,b.mono pre im⟩⟩
 ·exact λy v e e2=>let ⟨c,o,cv,a,b,d,f⟩:=R.fr.cel y v e e2;⟨c,o,cv,a,k _ _ b,d,f.mono pre im⟩
 ·intro x hx hm
  rcases aan.mp hm with h | h
  ·exact R.fr.dis x hx h
  ·simp at h;subst h;exact n2 hx
 ·intro env' he
  refine bS λY9 y9=> ?_
  obtain ⟨b1,L,o',b2,b3,b4,b5,b6⟩:=R.fs env' he
  refine y9 ?_
  refine ⟨b1,L,o',b2,k _ _ b3,b4,λhm=> ?_,b6⟩
  rcases aan.mp hm with h | h
  ·exact b5 h
  ·simp at h;subst h;rw [ha] at b3;cases b3
 ·intro x hx
  rcases aan.mp hx with h | h
  ·exact .inl h
  ·simp at h;subst h;exact .inr ha
theorem aP.alloc {b:β} {v:α} {REL:List Addr->Heap->α->β->Prop} {T:PT β} {h':Heap} {tk:Nat} {a:Addr} {o:O} (R:cC A env ι q s) (k:s.heap.StaysIn h') (ha:s.heap.get? a=none)
  (ho:o8 (ι++[a]) h' a o) (hR:REL (ι++[a]) h' v b) (hT:∀Q E,Q b { s with heap:=h',toks:=tk }->T Q E s):aP A env ι s (.ok v { q with H:=q.H++[o] }) REL T :=
 λ_ _ x=>hT _ _ (x _ b _ (aR.alloc R k ha ho) hR)
theorem aR.set (R:cC A env ι q s) {h':Heap} {tk:Nat} {i:Nat} {a:Addr} {o':O} (hi:ι[i]? = some a) (hs:Heap.SameBut a s.heap h') (im:nE s.heap h'->o8 ι h' a o') :
  aR A env ι s ι { q with H:=q.H.set i o' } { s with heap:=h',toks:=tk }:=by
 have ha:a∈ι:=aaI hi
 obtain ⟨oa,ea,hma⟩:=R.st.mut ha
 have ext:=hs.extBut
 have ne:∀b o,s.heap.get? b=some o->b∉ι->h'.get? b=some o:=λb o e hb=>ext b o (λq=>hb (q▸ha)) e
 have im':=R.imm' (h':=h') λb o e hW=>⟨o.slots,ne b o e λx=>hW (aat _ x)⟩
 have im:=im im'
 haveI kp:Kp (own env++ι) (kx A) s.heap h':=⟨λb o e=>by
   by_cases hb:b=a
   ·subst hb;exact im.there
   ·exact ⟨o,ext b o hb e⟩,λb o e hW=>⟨o.slots,ne b o e λx=>hW (aat _ x)⟩,λb o e hW _=>ne b o e λx=>hW (aat _ x)⟩
 have pr:ι<+:ι:=aaj _
 refine ⟨pr,⟨⟨?_,by simp [R.st.len],R.st.nodup,R.st.fresh,?_⟩,⟨R.fr.kind,R.fr.glob,R.fr.blt,?_,?_,?_,R.fr.ndup,R.fr.dis,R.fr.fresh⟩,?_,R.gens,R.os,R.hn.imm im'⟩,kp,λ_ h=> .inl h⟩
 ·intro b o e
  exact ext b o (λq=>by rw [q,R.st.fresh a ha] at e;cases e) (R.st.keep b o e)
 ·intro j x y e1 e2
  dsimp only at e2
  by_cases hj:i=j
  ·subst hj
   rw [hi] at e1;cases e1
   have:i<q.H.length:=R.st.len▸(aab.mp hi).1
   rw [aaB this] at e2;cases e2
   exact im
  ·rw [aaC hj] at e2
   refine (R.st.obj j x y e1 e2).at pr im' λo e=>ext x o (λq=>hj ?_) e
   subst q
   exact Cj R.st.nodup hi e1
 ·obtain ⟨m,hn,hm⟩:=R.fr.loc
  haveI hL:env.locals≠a:=λq=>R.fr.dis env.locals (.head _) (q▸ha)
  exact ⟨m,hn.extBut ext hL,λy v e e2=>let ⟨cv,a,b⟩:=hm y v e e2;⟨cv,a,b.mono pr im'⟩⟩
 ·intro y v e e2
  refine bS λY9 y9=> ?_
  obtain ⟨c,o,cv,h1,h2,h3,h4⟩:=R.fr.cel y v e e2
  refine y9 ?_
  haveI hc:c∈own env:=List.mem_cons_of_mem _ (aae.mpr ⟨_,bn h1,rfl⟩)
  exact ⟨c,o,cv,h1,ne c o h2 (R.fr.dis c hc),h3,h4.mono pr im'⟩
 ·intro p hp
  refine bS λY9 y9=> ?_
  obtain ⟨o,ov,h1,h2⟩:=R.fr.cells p hp
  refine y9 ?_
  exact ⟨o,ov,ne p.2 o h1 (R.fr.dis p.2 (List.mem_cons_of_mem _ (aae.mpr ⟨p,hp,rfl⟩))),h2⟩
 ·intro env' he
  refine bS λY9 y9=> ?_
  obtain ⟨b1,L,o',b2,b3,b4,b5,b6⟩:=R.fs env' he
  refine y9 ?_
  exact ⟨b1,L,o',b2,ne L o' b3 b5,b4,b5,b6⟩
where
 bn {α β:Type} [BEq α] [LawfulBEq α] {x:α} {y:β}:∀ {l:List (α×β)},l.lookup x=some y->(x,y)∈l
  | [],e=>by simp at e
  | (a,b)::r,e=>by
   rw [List.lookup_cons] at e
   split at e
   ·rename_i q;cases e;rw [eq_of_beq q];exact .head _
   ·exact .tail _ (bn e)
theorem aP.set {b:β} {v:α} {REL:List Addr->Heap->α->β->Prop} {T:PT β} {h':Heap} {tk:Nat} {i:Nat} {a:Addr} {o':O} (R:cC A env ι q s) (hi:ι[i]? = some a) (hs:Heap.SameBut a s.heap h')
  (im:nE s.heap h'->o8 ι h' a o') (hR:nE s.heap h'->REL ι h' v b) (hT:∀Q E,Q b { s with heap:=h',toks:=tk }->T Q E s):aP A env ι s (.ok v { q with H:=q.H.set i o' }) REL T:=by
 have P:=aR.set (tk:=tk) R hi hs im
 exact λ_ _ x=>hT _ _ (x _ b _ P (hR (R.imm P.kp)))
end
theorem HZ {k:Int} (h:k<16000000):k<2 ^ 63:=Int.lt_trans h ∅
theorem JC {k:Int} (h:0<=k) : -2 ^ 63<=k:=aa9 ∅ h
theorem Jo {n:Nat} (h:n<16000000):(n:Int)<2 ^ 63:=HZ (Int.ofNat_lt.mpr h)
section
variable {hq:Bool} {k:Nat} {env:Env}
noncomputable def af (x:String):Cm V:=λq=>match q.l x with | some v=> .ok v q | none=> .stuck
theorem aa {x:String} {pos:Pos} (hx:env.kindOf (Str.ofString x)=some .local:=by kernel_rfl) (hd:(Str.ofString x==("__debug__" : Str))=false:=by kernel_rfl):Ev hq k env (.Name (Str.ofString x) pos) (af x):=by
 intro A ι q s ha R
 unfold af
 cases h:q.l x with
 | none=>trivial
 | some v =>
  refine bS λY9 y9=> ?_
  obtain ⟨m,hn,hm⟩:=R.fr.loc
  obtain ⟨cv,h1,h2⟩:=hm x v h hx
  refine y9 ?_
  exact aP.ret0 R h2 λQ E hQ=>wpAny_Name (wpAny_loadName_local R.fr.kind hx hn h1 hQ) hd
theorem aZ {x:String} {pos:Pos} (hx:env.kindOf (Str.ofString x)=some .cell:=by kernel_rfl) (hd:(Str.ofString x==("__debug__" : Str))=false:=by kernel_rfl):Ev hq k env (.Name (Str.ofString x) pos) (af x):=by
 intro A ι q s ha R
 unfold af
 cases h:q.l x with
 | none=>trivial
 | some v =>
  refine bS λY9 y9=> ?_
  obtain ⟨c,o,cv,h1,h2,h3,h4⟩:=R.fr.cel x v h (.inl hx)
  refine y9 ?_
  exact aP.ret0 R h4 λQ E hQ=>wpAny_Name (wpAny_loadName_cell R.fr.kind hx h1 ⟨o,h2,h3⟩ hQ) hd
theorem aq {i:Int} {kk:Nat} {pos:Pos}:Ev hq k env (.Constant (.int i) kk pos) (.p (.int i)) :=
 λ_ _ _ _ _ R=>aP.ret R ⟨_,rfl⟩ λ_ _ hQ=>wpAny_Constant_int hQ
theorem s9 {kk:Nat} {pos:Pos}:Ev hq k env (.Constant .none kk pos) (.p .none) :=
 λ_ _ _ _ _ R=>aP.ret0 R GC λ_ _ hQ=>wpAny_Constant_none hQ
theorem cT {b:Bool} {kk:Nat} {pos:Pos}:Ev hq k env (.Constant (.bool b) kk pos) (.p (.bool b)) :=
 λ_ _ _ _ _ R=>aP.ret0 R (uT b) λ_ _ hQ=>wpAny_Constant_bool hQ
theorem lw {x:String} {kk:Nat} {pos:Pos}:Ev hq k env (.Constant (.str (Str.ofString x)) kk pos) (.p (.str x)) :=
 λ_ _ _ _ _ R=>aP.ret R ⟨_,rfl⟩ λ_ _ hQ=>wpAny_Constant_str hQ
theorem zM (C:bF G) {x:String} {i:Int} {t:Tok} {pos:Pos} (hx:env.kindOf (Str.ofString x)=some .globalImplicit) (hv:nsIn G.K mainGlobals (Str.ofString x)=some (some (.int i t)))
  (hd:(Str.ofString x==("__debug__" : Str))=false):Ev hq k env (.Name (Str.ofString x) pos) (.p (.int i)) :=
 λ_ _ _ _ _ R=>aP.ret0 R ⟨t,rfl⟩ λ_ _ hQ=>Calls.Name_function_global R.fr.kind hx
  (Calls.loadGlobal_global (by rw [R.fr.glob];exact C.g.keeps R.st.keep) (mg_of C.X C.g hv) hQ) hd
theorem jR (C:bF G) {A:Around} {ι:List Addr} {q:S} {s:Shared} (R:cC A env ι q s) {x:Str} {v:Value} {pos:Pos} (hx:env.kindOf x=some .globalImplicit) (hv:nsIn G.K mainGlobals x=some (some v))
  (hd:(x==("__debug__" : Str))=false) {Q:Value->Shared->Prop} {E:Value->Shared->Prop} (h:Q v s):wpAny G.M A (eval (.Name x pos) env) Q E s :=
 Calls.Name_function_global R.fr.kind hx (Calls.loadGlobal_global (by rw [R.fr.glob];exact C.g.keeps R.st.keep) (mg_of C.X C.g hv) h) hd
theorem jM (C:bF G) {A:Around} {ι:List Addr} {q:S} {s:Shared} (R:cC A env ι q s) {x:Str} {v:Value} {pos:Pos} (hx:env.kindOf x=some .globalImplicit) (hv:nsIn G.K mainGlobals x=some none)
  (hb:bootBuiltins x=some v) (hn:x ≠ "__name__") (hd:(x==("__debug__" : Str))=false) {Q:Value->Shared->Prop} {E:Value->Shared->Prop} (h:Q v s):wpAny G.M A (eval (.Name x pos) env) Q E s :=
 Calls.Name_function_global R.fr.kind hx (Calls.loadGlobal_builtin (by rw [R.fr.glob];exact C.g.keeps R.st.keep) (mg_none_of C.X C.g hv)
  (by rw [R.fr.blt];exact C.b.keeps R.st.keep) ((C.bt x hn).trans hb) h) hd
abbrev tg (T:Around->Value->Value->PT Value) (f:V->V->Cm V):Prop :=
 ∀A env ι q s a b ca cb,bF G->(∃hq k,lv hq k A env)->cC A env ι q s->aL ι s.heap a ca->aL ι s.heap b cb->aP A env ι s (f a b q) (aL) (T A ca cb)
theorem aw (C:bF G) {l r:Expr} {op:Operator} {pos:Pos} {m1 m2:Cm V} {f:V->V->Cm V} (h1:Ev hq k env l m1) (h2:Ev hq k env r m2)
  (hf:tg (λA a b=>mh A (binaryOp op a b)) f):Ev hq k env (.BinOp l op r pos) (m1.b λa=>m2.b λb=>f a b) :=
 λA ι q s ha R=>(aP.b (h1 A ι q s ha R) λa q' ι' b s' _ P hv=>aP.b (T':=λb' Q E s₂=>wpAny G.M A (binaryOp op b b') Q E s₂) (h2 A ι' q' s' ha P.rel) λa2 q2 ι2 b2 s2 _ P2 hv2 =>
  hf A env ι2 q2 s2 a a2 b b2 C ⟨_,_,ha⟩ P2.rel (P2.vrel P.rel hv) hv2).imp λQ E x=>wpAny_BinOp x
theorem lv.pylong (C:bF G) {A:Around} {ι:List Addr} {q:S} {s:Shared} (ha:∃hq k,lv hq k A env) (R:cC A env ι q s):PylongRoom G.M A s:=by
 refine bS λY9 y9=> ?_
 obtain ⟨hq,k,ha⟩:=ha
 obtain ⟨fenv,rest,h1,h2,h3,h4,h5,h6⟩:=ha.fr
 refine y9 ?_
 refine PylongRoom.of (C.lim.keeps R.st.keep) ?_ (SeerAt.of (C.seer.keeps R.st.keep) C.tree h1 h3 h4 h5 h6)
 exact Nat.lt_of_le_of_lt (Nat.add_le_add (aam (aaK _ _) ha.depth) (by decide:Builtin.pylongFrames<=150)) (by decide:800+150<1000)
noncomputable def cY:V->V->Cm V
 | .int i,.int j=> .p (.int (i+j))
 | .str x,.str y=>if x.length+y.length<=100000 then .p (.str (x++y)) else .stk
 | .ref i,.ref j=>λq=>match q.H[i]?,q.H[j]? with
  | some (.list xs),some (.list ys)=>if xs.length+ys.length<=1000000 then .ok (.ref q.H.length) { q with H:=q.H++[.list (xs++ys)] } else .stuck
  | _,_=> .stuck
 | _,_=> .stk
noncomputable def xG:V->V->Cm V
 | .int i,.int j=> .p (.int (i-j))
 | _,_=> .stk
noncomputable def gB:V->V->Cm V
 | .int i,.int j=>haveI:=Classical.propDecidable (IntMulOk i j);if IntMulOk i j then .p (.int (i*j)) else .stk
 | .ref i,.int n=>λq=>match q.H[i]? with
  | some (.list xs)=>if xs.length=1/\0<=n/\n<=1000000 then .ok (.ref q.H.length) { q with H:=q.H++[.list (List.replicate n.toNat xs).flatten] } else .stuck
  | _=> .stuck
 | _,_=> .stk
noncomputable def dq:V->V->Cm V
 | .int i,.int j=>if j=0 then .stk else .p (.int (i.fdiv j))
 | _,_=> .stk
noncomputable def bw:V->V->Cm V
 | .int i,.int j=>if j=0 then .stk else .p (.int (i.fmod j))
 | _,_=> .stk
noncomputable def oR:V->V->Cm V
 | .int i,.int j=>if 0<=j/\j<=1000000/\i.natAbs<2 ^ 64 then .p (.int (i ^ j.toNat)) else .stk
 | _,_=> .stk
theorem vW:tg (λA a b=>mh A (binaryOp .Sub a b)) xG:=by
 intro A env ι q s a b ca cb C ha R h1 h2
 cases a with
 | int i =>
  cases b with
  | int j =>
   obtain ⟨t,rfl⟩:=h1;obtain ⟨u,rfl⟩:=h2
   exact aP.ret R ⟨_,rfl⟩ λQ E hQ=>P.sub_int hQ
  | _=>trivial
 | _=>trivial
theorem fg:tg (λA a b=>mh A (binaryOp .FloorDiv a b)) dq:=by
 intro A env ι q s a b ca cb C ha R h1 h2
 cases a with
 | int i =>
  cases b with
  | int j =>
   obtain ⟨t,rfl⟩:=h1;obtain ⟨u,rfl⟩:=h2
   unfold dq;dsimp only
   split
   ·trivial
   ·exact aP.ret R ⟨_,rfl⟩ λQ E hQ=>floordiv_int (by assumption) hQ (.inr (lv.pylong C ha R))
  | _=>trivial
 | _=>trivial
theorem bK:tg (λA a b=>mh A (binaryOp .Mod a b)) bw:=by
 intro A env ι q s a b ca cb C ha R h1 h2
 cases a with
 | int i =>
  cases b with
  | int j =>
   obtain ⟨t,rfl⟩:=h1;obtain ⟨u,rfl⟩:=h2
   unfold bw;dsimp only
   split
   ·trivial
   ·exact aP.ret R ⟨_,rfl⟩ λQ E hQ=>mod_int' (by assumption) hQ
  | _=>trivial
 | _=>trivial
theorem vV:tg (λA a b=>mh A (binaryOp .Pow a b)) oR:=by
 intro A env ι q s a b ca cb C ha R h1 h2
 unfold oR
 split
 ·obtain ⟨t,rfl⟩:=h1;obtain ⟨u,rfl⟩:=h2
  split
  ·rename_i h
   exact aP.ret R ⟨_,rfl⟩ λQ E hQ=>pow_int_small h.1 h.2.1 h.2.2 hQ
  ·trivial
 ·trivial
theorem er.list {ι:List Addr} {H:Hp} {h:Heap} (x:er ι H h) {i:Nat} {xs:List V} (e:H[i]? = some (.list xs)):∃a n vs,A3 (ι[i]? = some a) (IsL h a (List.toArray vs) n) (aM ι h xs vs):=by
 have hi:i<ι.length:=x.len▸(aab.mp e).1
 refine bS λY9 y9=> ?_
 obtain ⟨vs,⟨n,h1⟩,h2⟩:=x.obj i ι[i] _ (by simp) e
 refine y9 ?_
 exact ⟨ι[i],n,vs,by simp,h1,h2⟩
theorem er.dict {ι:List Addr} {H:Hp} {h:Heap} (x:er ι H h) {i:Nat} {es:List (Int×V)} (e:H[i]? = some (.dict es)):∃a kvs,A3 (ι[i]? = some a) (h.DictOf (intKind G.prog G.w) a kvs) (jJ ι h es kvs):=by
 have hi:i<ι.length:=x.len▸(aab.mp e).1
 obtain ⟨kvs,h1,h2⟩:=x.obj i ι[i] _ (by simp) e
 exact ⟨ι[i],kvs,by simp,h1,h2⟩
theorem er.flds {ι:List Addr} {H:Hp} {h:Heap} (x:er ι H h) {i:Nat} {fs:List (String×V)} (e:H[i]? = some (.flds fs)):∃a es n,A3 (ι[i]? = some a) (h.get? a=some (dictOf es n)) (qi ι h fs es):=by
 have hi:i<ι.length:=x.len▸(aab.mp e).1
 obtain ⟨es,n,h1,h2⟩:=x.obj i ι[i] _ (by simp) e
 exact ⟨ι[i],es,n,by simp,h1,h2⟩
theorem iM (h:Heap) (o:Obj):h.StaysIn (h.push o):=λ_ _ e=>aal _ e
theorem ja {ι:List Addr} {H:Hp} {h h':Heap} (x:er ι H h) (a:Addr):aL (ι++[a]) h' (.ref H.length) (.ref a):=⟨a,by rw [<- x.len];simp,rfl⟩
theorem aP.newList {β:Type} {A:Around} {ι:List Addr} {q:S} {s:Shared} {T:PT Value} {tk:Nat} {xs:List V} {vs:List Value} (R:cC A env ι q s) (hx:aM ι s.heap xs vs)
  (hT:∀Q E,Q (.ref s.heap.objs.size) { s with heap:=s.heap.push { cls:= .type "list",data:= .seq vs.toArray },toks:=tk }->T Q E s) :
  aP A env ι s (.ok (.ref q.H.length) { q with H:=q.H++[.list xs] }) (aL) T :=
 aP.alloc R (iM _ _) (aaO (aaL _)) ⟨vs,⟨0,aaM _ rfl⟩,hx.mono (aaz _ _) (.of_stays (iM _ _))⟩ (ja R.st _) hT
theorem sq (x y:String):Str.ofString x++Str.ofString y=Str.ofString (x++y):=by
 rw [Str.ofString_eq_toList,Str.ofString_eq_toList,Str.ofString_eq_toList,String.toList_append,aa7]
 apply Str.ext'
 show _++_=_
 simp
theorem fJ {x y:String} (h:Str.ofString x=Str.ofString y):x=y:=by
 rw [Str.ofString_eq_toList,Str.ofString_eq_toList] at h
 haveI h1:(x.toList.map Char.toNat)=(y.toList.map Char.toNat):=by simpa using congrArg (λz:Str=>z.cps.toList) h
 haveI h2:x.toList=y.toList:=by
  refine (List.map_inj_right ?_).mp h1
  intro a b e
  exact Char.ext (UInt32.toNat.inj e)
 exact String.toList_injective h2
theorem cV:tg (λA a b=>mh A (binaryOp .Add a b)) cY:=by
 intro A env ι q s a b ca cb C ha R h1 h2
 cases a with
 | int i =>
  cases b with
  | int j =>
   obtain ⟨t,rfl⟩:=h1;obtain ⟨u,rfl⟩:=h2
   exact aP.ret R ⟨_,rfl⟩ λQ E hQ=>P.add_int hQ
  | _=>trivial
 | str x =>
  cases b with
  | str y =>
   obtain ⟨t,rfl⟩:=h1;obtain ⟨u,rfl⟩:=h2
   unfold cY;dsimp only
   split
   ·rename_i hl
    intro Q E hQ
    refine add_str (λt' tk=> ?_) (by rw [PySem.ofString_length,PySem.ofString_length,sizeLine_eq];exact bP 0xb10c00186a0a10c011 hl)
    rw [sq]
    exact hQ ι _ _ (aR.toks R tk) ⟨t',rfl⟩
   ·trivial
  | _=>trivial
 | ref i =>
  cases b with
  | ref j =>
   obtain ⟨x,hx,rfl⟩:=h1;obtain ⟨y,hy,rfl⟩:=h2
   unfold cY;dsimp only
   cases e1:q.H[i]? with
   | none=>trivial
   | some o =>
    cases o with
    | list xs =>
     cases e2:q.H[j]? with
     | none=>trivial
     | some o =>
      cases o with
      | list ys =>
       dsimp only
       split
       ·rename_i hl
        refine bS λY9 y9=> ?_
        obtain ⟨a1,n1,vs,g1,g2,g3⟩:=R.st.list e1
        obtain ⟨a2,n2,ws,k1,k2,k3⟩:=R.st.list e2
        refine y9 ?_
        obtain rfl:x=a1:=Option.some.inj (hx.symm.trans g1)
        obtain rfl:y=a2:=Option.some.inj (hy.symm.trans k1)
        refine aP.newList (β:=Value) (tk:=s.toks) R (g3.append k3) λQ E hQ=>P.add_list g2 k2 ?_ ?_
        ·simpa using hQ
        ·rw [aa1,aa1,g3.length,k3.length,sizeLine_eq];exact bP 0xb10c00f4240a10c011 hl
       ·trivial
      | _=>trivial
    | _=>trivial
  | _=>trivial
 | _=>trivial
theorem yq {ι:List Addr} {h:Heap} {xs:List V} {vs:List Value} (x:aM ι h xs vs):∀n:Nat,aM ι h (List.replicate n xs).flatten (List.replicate n vs).flatten
 | 0=>xO
 | n+1=>by
  rw [List.replicate_succ,List.replicate_succ,List.flatten_cons,List.flatten_cons]
  exact x.append (yq x n)
theorem FA {prog:Program} {w:World} {A:Around} {E:Value->Shared->Prop} {s:Shared} {l:Addr} {items:Array Value} {k:Nat} {x:Int} {u:Tok} {Q:Value->Shared->Prop}
  (hl:IsL s.heap l items k) (hlo : -(2 ^ 63:Int)<=x) (hhi:x<2 ^ 63) (hsz:items.size*x.toNat<=2 ^ 24)
  (h:Q (.ref s.heap.objs.size) { s with heap:=s.heap.push { cls:= .type "list",data:= .seq (List.foldl (λx1 x2=>x1++x2) #[] (List.replicate (if items.isEmpty=true then 0 else x.toNat) items)) } }) :
  wpAny (model prog w) A (binaryOp .Mult (.ref l) (.int x u)) Q E s :=
 wpAny_binaryOp_repeat_ref (T := "list") (U := "int") ∅ ⟨_,hl,rfl⟩ (λs'=>typeIs_int s' x u) noFill_list_mul F.fills_int_mul F.slot_int_rmul repeat_list F.slot_int_index.lookup
  (call_meets F.slot_int_rmul (typeIs_int s x u) F.entry_int_rmul (F.args_int_rmul_2 _ _) (int___rmul___int_list x u l items k)
   ⟨hl,rfl,⟨_,hl,rfl⟩,call_meets F.slot_list_mul ⟨_,hl,rfl⟩ F.entry_list_mul (F.args_list_mul_2 _ _)
    (AutoListH.list___mul___list_int_3 l items k x u (by simp [Builtin.List.listFitsIndex];exact ⟨aa9 ∅ hlo,Int.lt_of_lt_of_le hhi ∅⟩) (Nat.not_lt.mpr (aam hsz ∅)) (by simp [Builtin.List.listTooLong,sizeLine];exact aam hsz ∅))
    ⟨hl,h⟩⟩)
theorem rc:tg (λA a b=>mh A (binaryOp .Mult a b)) gB:=by
 intro A env ι q s a b ca cb C ha R h1 h2
 cases a with
 | int i =>
  cases b with
  | int j =>
   obtain ⟨t,rfl⟩:=h1;obtain ⟨u,rfl⟩:=h2
   unfold gB;dsimp only
   split
   ·exact aP.ret R ⟨_,rfl⟩ λQ E hQ=>P.mul_int hQ (by assumption)
   ·trivial
  | _=>trivial
 | ref i =>
  cases b with
  | int n =>
   obtain ⟨x,hx,rfl⟩:=h1;obtain ⟨u,rfl⟩:=h2
   unfold gB;dsimp only
   cases e1:q.H[i]? with
   | none=>trivial
   | some o =>
    cases o with
    | list xs =>
     dsimp only
     split
     ·rename_i hl
      refine bS λY9 y9=> ?_
      obtain ⟨a1,n1,vs,g1,g2,g3⟩:=R.st.list e1
      refine y9 ?_
      obtain rfl:x=a1:=Option.some.inj (hx.symm.trans g1)
      haveI hv:vs.length=1:=g3.length.trans hl.1
      refine aP.newList (β:=Value) (tk:=s.toks) R (yq g3 n.toNat) λQ E hQ=>FA g2 (JC (hl.2.1)) (HZ (cI 0xf42400a090f4240a0811 hl.2.2)) (by rw [aa1,hv,Nat.one_mul];exact aam (Int.toNat_le.mpr hl.2.2) (by decide:1000000<=2 ^ 24)) ?_
      haveI:(List.foldl (λx1 x2=>x1++x2) #[] (List.replicate (if vs.toArray.isEmpty=true then 0 else n.toNat) vs.toArray))=(List.replicate n.toNat vs).flatten.toArray:=listMul_foldl_if ..
      rw [this]
      exact hQ
     ·trivial
    | _=>trivial
  | _=>trivial
 | _=>trivial
end
noncomputable def eD {α β:Type} (f:α->Option β):List α->Option (List β)
 | []=>some []
 | x::xs=>(f x).bind λd=>(eD f xs).map (d :: ·)
noncomputable def toD (H:Hp):Nat->V->Option PyData
 | 0,_=>none
 | n+1,v=>match v with
  | .none=>some .none
  | .bool b=>some (.bool b)
  | .int i=>some (.int i)
  | .str x=>some (.str (Str.ofString x))
  | .tup xs=>(eD (toD H n) xs).map .tuple
  | .ref i=>match H[i]? with
   | some (.list xs)=>(eD (toD H n) xs).map .list
   | _=>none
  | _=>none
section
variable {hq:Bool} {k:Nat} {env:Env} {A:Around} {ι:List Addr} {q:S} {s:Shared} {H:Hp} {h:Heap}
theorem jm {n:Nat} (ih:∀ {v:V} {cv:Value} {d:PyData},aL ι h v cv->toD H n v=some d-> ∃as,Reads h cv d as) :
  ∀ {xs:List V} {vs:List Value} {ds:List PyData},aM ι h xs vs->eD (toD H n) xs=some ds-> ∃as,ReadsAll h vs ds as
 | [],_,_,x,e=>by rw [show _=[] from x];cases e;exact ⟨_,.nil⟩
 | v::xs,_,_,z3,e=>by
  refine bS λY9 y9=> ?_
  obtain ⟨cv,vs',q,a,b⟩:=z3
  subst q
  obtain ⟨d,h1,h2⟩:=Option.bind_eq_some_iff.mp e
  obtain ⟨ds,h3,rfl⟩:=Option.map_eq_some_iff.mp h2
  obtain ⟨as,r1⟩:=ih a h1
  obtain ⟨bs,r2⟩:=jm ih b h3
  refine y9 ?_
  exact ⟨_,.cons r1 r2⟩
theorem iO (x:er ι H h):∀ {n:Nat} {v:V} {cv:Value} {d:PyData},aL ι h v cv->toD H n v=some d-> ∃as,Reads h cv d as
 | 0,_,_,_,_,e=>by cases e
 | n+1,v,cv,d,r,e=>by
  have ih:= @iO x n
  cases v with
  | none=>cases e;rw [show cv= .none from r];exact ⟨_,.none⟩
  | bool b=>cases e;rw [show cv= .bool b from r];exact ⟨_,.bool b⟩
  | int i=>cases e;obtain ⟨t,rfl⟩:=r;exact ⟨_,.int i t⟩
  | str y=>cases e;obtain ⟨t,rfl⟩:=r;exact ⟨_,.str _ t⟩
  | tup xs =>
   change (eD (toD H n) xs).map PyData.tuple=some d at e
   refine bS λY9 y9=> ?_
   obtain ⟨ds,h1,rfl⟩:=Option.map_eq_some_iff.mp e
   obtain ⟨a,vs,rfl,⟨o,ho,hc,n',hd⟩,hv⟩:=r
   obtain ⟨as,ra⟩:=jm ih hv h1
   refine y9 ?_
   exact ⟨_,.tuple ho hc hd (by simpa using ra)⟩
  | ref i =>
   change (match H[i]? with | some (.list xs)=>(eD (toD H n) xs).map PyData.list | _=>none)=some d at e
   cases hx:H[i]? with
   | none=>rw [hx] at e;cases e
   | some o =>
   rw [hx] at e
   cases o with
   | list xs =>
    refine bS λY9 y9=> ?_
    obtain ⟨ds,h1,rfl⟩:=Option.map_eq_some_iff.mp e
    obtain ⟨a,n',vs,g1,g2,g3⟩:=x.list hx
    obtain ⟨a',e1,rfl⟩:=r
    refine y9 ?_
    obtain rfl:a'=a:=Option.some.inj (e1.symm.trans g1)
    obtain ⟨as,ra⟩:=jm ih g3 h1
    exact ⟨_,.list g2 rfl rfl (by simpa using ra)⟩
   | _=>cases e
  | inst c i=>cases e
  | exc c=>cases e
  | scr=>cases e
noncomputable def Fa (H:Hp) (a b:V):Option Bool:=(toD H 8 a).bind λd=>(toD H 8 b).bind λe=>if SeqAt.shaped d&&SeqAt.shaped e then some (PyData.eqv d e) else none
noncomputable def IZ (H:Hp) (a:V) (xs:List V):Option Bool:=(toD H 8 a).bind λd=>(eD (toD H 8) xs).bind λds=>if SeqAt.shaped d&&SeqAt.shaped (.list ds) then some (ds.any λy=>PyData.eqv y d) else none
noncomputable def tB (a b:V):Cm Bool:=λq=>match Fa q.H a b with | some x=> .ok x q | none=> .stuck
noncomputable def rk (a b:V):Cm Bool:=λq=>match b with
 | .ref i=>(match q.H[i]?,a with
  | some (.list xs),_=>(match IZ q.H a xs with | some x=> .ok x q | none=> .stuck)
  | some (.dict es),.int k=> .ok ((es.lookup k).isSome) q
  | _,_=> .stuck)
 | _=> .stuck
noncomputable def isNone:V->Bool
 | .none=>true
 | _=>false
noncomputable def DV (f:Int->Int->Bool) (a b:V):Cm Bool:=match a,b with | .int i,.int j=> .p (f i j) | _,_=> .stk
noncomputable def ew (op:CmpOp) (a b:V):Cm Bool:=match op with
 | .Eq=>tB a b
 | .NotEq=>(tB a b).b λx=> .p (!x)
 | .Lt=>DV (λi j=>decide (i<j)) a b
 | .LtE=>DV (λi j=>decide (i<=j)) a b
 | .Gt=>DV (λi j=>decide (i>j)) a b
 | .GtE=>DV (λi j=>decide (i>=j)) a b
 | .Is=>(match b with | .none=> .p (isNone a) | _=> .stk)
 | .IsNot=>(match b with | .none=> .p (!isNone a) | _=> .stk)
 | .In=>rk a b
 | .NotIn=>(rk a b).b λx=> .p (!x)
theorem lv.units_lt (ha:∃hq k,lv hq k A env):A.units+100<cLine:=by
 obtain ⟨hq,k,ha⟩:=ha
 haveI:=ha.units
 show A.units+100<9900
 exact bP 0x26aca000064a0c1002328a132d0c011 this
theorem wD {v:V} {cv:Value} (r:aL ι h v cv):(cv == .none)=isNone v:=by
 cases v with
 | none=>rw [show cv= .none from r];rfl
 | bool b=>rw [show cv= .bool b from r];rfl
 | int i=>obtain ⟨t,rfl⟩:=r;rfl
 | str y=>obtain ⟨t,rfl⟩:=r;rfl
 | tup xs=>obtain ⟨a,vs,rfl,_⟩:=r;rfl
 | ref i=>obtain ⟨a,_,rfl⟩:=r;rfl
 | inst c i=>obtain ⟨a,x,C,o,_,_,rfl,_⟩:=r;rfl
 | exc c=>obtain ⟨x,C,o,_,rfl,_⟩:=r;rfl
 | scr=>rw [show cv= .ref G.sa from r];rfl
abbrev C6:List Addr->Heap->Bool->Value->Prop:=λ_ _ x cv=>cv= .bool x
theorem hU:∀ {es:List (Int×V)} {kvs:List (Int×Value)},jJ ι h es kvs-> ∀(k:Int),(match es.lookup k with | some v=> ∃cv,valueAt kvs k=some cv/\aL ι h v cv | none=>valueAt kvs k=none)
 | [],_,x,k=>by rw [show _=[] from x];rfl
 | (k',v)::es,_,z2,k=>by
  obtain ⟨cv,kvs',q,a,b⟩:=z2
  subst q
  haveI ih:=hU b k
  rw [List.lookup_cons]
  unfold valueAt
  by_cases e:k=k'
  ·subst e;simp;exact a
  ·haveI:(k==k')=false:=by simpa using e
   rw [this]
   have e':¬(k'=k):=λx=>e x.symm
   simp only [e',if_false]
   first | exact ih | simpa [valueAt,e'] using ih
end
section
variable {hq:Bool} {k:Nat} {env:Env} {A:Around} {ι:List Addr} {q:S} {s:Shared} {H:Hp} {h:Heap}
theorem jk (C:bF G) (R:er ι H h) {a:Addr} (ha:a∈ι):(a==sysModules)=false:=by
 refine bS λY9 y9=> ?_
 obtain ⟨mm,⟨o,_,_,ho,_⟩,_⟩:=C.seer.mods
 refine y9 ?_
 refine beq_eq_false_iff_ne.mpr λe=> ?_
 have:=R.fresh a ha
 rw [e,ho] at this;cases this
theorem ym {a b:V} {x:Bool} (e:Fa H a b=some x):∃d f,A5 (toD H 8 a=some d) (toD H 8 b=some f) (SeqAt.shaped d=true) (SeqAt.shaped f=true) (x=PyData.eqv d f):=by
 obtain ⟨d,h1,e⟩:=Option.bind_eq_some_iff.mp e
 obtain ⟨f,h2,e⟩:=Option.bind_eq_some_iff.mp e
 split at e
 ·rename_i h;cases e;obtain ⟨h3,h4⟩:=aaN.mp h;exact ⟨d,f,h1,h2,h3,h4,rfl⟩
 ·cases e
theorem Dw {a:V} {xs:List V} {x:Bool} (e:IZ H a xs=some x):∃d ds,A5 (toD H 8 a=some d) (eD (toD H 8) xs=some ds) (SeqAt.shaped d=true) (SeqAt.shaped (.list ds)=true) (x=ds.any λy=>PyData.eqv y d):=by
 obtain ⟨d,h1,e⟩:=Option.bind_eq_some_iff.mp e
 obtain ⟨f,h2,e⟩:=Option.bind_eq_some_iff.mp e
 split at e
 ·rename_i h;cases e;obtain ⟨h3,h4⟩:=aaN.mp h;exact ⟨d,f,h1,h2,h3,h4,rfl⟩
 ·cases e
theorem wj {P:Prop} (h:∀X:Prop,(P->X)->X):P:=h P id
theorem AP {f:Int->Int->Bool} {op:CmpOp} {a b:V} {ca cb:Value} (R:cC A env ι q s) (h1:aL ι s.heap a ca) (h2:aL ι s.heap b cb) (hT:∀ {i j:Int} {t u:Tok} {Q E},Q (.bool (f i j)) s->wpAny G.M A (compareOp op (.int i t) (.int j u)) Q E s) :
  aP A env ι s (DV f a b q) C6 (mh A (compareOp op ca cb)):=by
 cases a with
 | int i =>
  cases b with
  | int j =>
   obtain ⟨t,rfl⟩:=h1;obtain ⟨u,rfl⟩:=h2
   exact aP.ret0 R rfl λQ E hQ=>hT hQ
  | _=>trivial
 | _=>trivial
theorem Dx {a b:V} {ca cb:Value} (C:bF G) (hu:A.units+100<cLine) (st:er ι q.H s.heap) (h1:aL ι s.heap a ca) (h2:aL ι s.heap b cb):rk a b q= .stuck\/ ∃x,rk a b q= .ok x q /\
  (∀ {Q E},(∀tk,Q (.bool x) { s with toks:=tk })->wpAny G.M A (compareOp .In ca cb) Q E s)/\ ∀ {Q E},(∀tk,Q (.bool (!x)) { s with toks:=tk })->wpAny G.M A (compareOp .NotIn ca cb) Q E s:=by
 refine wj λG' kG=> ?_
 cases b with
 | ref i =>
  obtain ⟨ad,hi,rfl⟩:=h2
  cases hx:q.H[i]? with
  | none=>exact kG (.inl (by unfold rk;dsimp only;rw [hx]))
  | some o =>
  cases o with
  | list xs =>
   cases hy:IZ q.H a xs with
   | none=>exact kG (.inl (by unfold rk;dsimp only;rw [hx];dsimp only;rw [hy]))
   | some y =>
    obtain ⟨d,ds,e1,e2,e3,e4,ey⟩:=Dw hy
    obtain ⟨as,r1⟩:=iO st h1 e1
    obtain ⟨a1,n1,vs,g1,g2,g3⟩:=st.list hx
    obtain rfl:ad=a1:=Option.some.inj (hi.symm.trans g1)
    obtain ⟨bs,r2⟩:=jm (iO st) g3 e2
    have r3:Reads s.heap (.ref ad) (.list ds) _:= .list g2 rfl rfl (by simpa using r2)
    refine kG (.inr ⟨y,by unfold rk;dsimp only;rw [hx];dsimp only;rw [hy],λhQ=> ?_,λhQ=> ?_⟩)
    ·exact SeqAt.in_list_reads r3 r1 (SeqAt.canLay_of_shaped e4) (SeqAt.canLay_of_shaped e3) (room_in_shaped e3 (bP 0x1000041a0c11000064a0c111 hu)) (ey▸hQ s.toks)
    ·exact SeqAt.notIn_list_reads r3 r1 (SeqAt.canLay_of_shaped e4) (SeqAt.canLay_of_shaped e3) (room_in_shaped e3 (bP 0x1000041a0c11000064a0c111 hu)) (ey▸hQ s.toks)
  | dict es =>
   cases a with
   | int k0 =>
    obtain ⟨t,rfl⟩:=h1
    obtain ⟨a1,kvs,g1,g2,g3⟩:=st.dict hx
    obtain rfl:ad=a1:=Option.some.inj (hi.symm.trans g1)
    have hm:=jk C st (aaI g1)
    have hv:=hU g3 k0
    have hs:(valueAt kvs k0).isSome=(es.lookup k0).isSome:=by
     cases hl:es.lookup k0 with
     | none=>rw [hl] at hv;rw [hv];rfl
     | some v=>rw [hl] at hv;obtain ⟨cv,hv,_⟩:=hv;rw [hv];rfl
    refine kG (.inr ⟨(es.lookup k0).isSome,by unfold rk;dsimp only;rw [hx],λhQ=> ?_,λhQ=> ?_⟩)
    ·exact wpAny_in_of (intKind_is G.prog G.w k0 t) hm g2.mapOf (by rw [hs];exact hQ _)
    ·exact wpAny_notIn_of (intKind_is G.prog G.w k0 t) hm g2.mapOf (by rw [hs];exact hQ _)
   | _=>exact kG (.inl (by unfold rk;dsimp only;rw [hx]))
  | flds _=>exact kG (.inl (by unfold rk;dsimp only;rw [hx]))
 | _=>exact kG (.inl rfl)
theorem vU (op:CmpOp) {a b:V} {ca cb:Value} (C:bF G) (ha:∃hq k,lv hq k A env) (R:cC A env ι q s) (h1:aL ι s.heap a ca) (h2:aL ι s.heap b cb) :
  aP A env ι s (ew op a b q) C6 (mh A (compareOp op ca cb)):=by
 have hu:=lv.units_lt ha
 have hEq:∀ {x:Bool},Fa q.H a b=some x-> ∀ {Q E},Q (.bool x) s->wpAny G.M A (compareOp .Eq ca cb) Q E s:=λ{x} e {Q E} hQ=>by
  refine bS λY9 y9=> ?_
  obtain ⟨d,f,e1,e2,e3,e4,rfl⟩:=ym e
  obtain ⟨as,r1⟩:=iO R.st h1 e1
  obtain ⟨bs,r2⟩:=iO R.st h2 e2
  refine y9 ?_
  exact eq_dataH r1 r2 e3 e4 (bP 0x1000040a0c11000064a0c111 hu) hQ
 have hNe:∀ {x:Bool},Fa q.H a b=some x-> ∀ {Q E},Q (.bool (!x)) s->wpAny G.M A (compareOp .NotEq ca cb) Q E s:=λ{x} e {Q E} hQ=>by
  refine bS λY9 y9=> ?_
  obtain ⟨d,f,e1,e2,e3,e4,rfl⟩:=ym e
  obtain ⟨as,r1⟩:=iO R.st h1 e1
  obtain ⟨bs,r2⟩:=iO R.st h2 e2
  refine y9 ?_
  exact ne_dataH r1 r2 e3 e4 (bP 0x1000040a0c11000064a0c111 hu) hQ
 cases op with
 | Eq =>
  show aP A env ι s (tB a b q) _ _
  unfold tB
  cases e:Fa q.H a b with
  | none=>trivial
  | some x=>exact aP.ret0 R rfl λQ E hQ=>hEq e hQ
 | NotEq =>
  show aP A env ι s (((tB a b).b λx=> .p (!x)) q) _ _
  unfold tB Cm.b
  cases e:Fa q.H a b with
  | none=>dsimp only;rw [e];trivial
  | some x=>dsimp only;rw [e];exact aP.ret0 (REL:=C6) R rfl λQ E hQ=>hNe e hQ
 | Lt=>exact AP R h1 h2 λhQ=>P.lt_int hQ
 | LtE=>exact AP R h1 h2 λhQ=>P.le_int hQ
 | Gt=>exact AP R h1 h2 λhQ=>P.gt_int hQ
 | GtE=>exact AP R h1 h2 λhQ=>P.ge_int hQ
 | Is =>
  cases b with
  | none =>
   rw [show cb= .none from h2]
   exact aP.ret0 R rfl λQ E hQ=>is_none (by rw [wD h1];exact hQ)
  | _=>trivial
 | IsNot =>
  cases b with
  | none =>
   rw [show cb= .none from h2]
   exact aP.ret0 R rfl λQ E hQ=>isNot_none (by rw [wD h1];exact hQ)
  | _=>trivial
 | In =>
  show aP A env ι s (rk a b q) _ _
  rcases Dx C hu R.st h1 h2 with e | ⟨x,e,h3,_⟩
  ·rw [e];trivial
  ·rw [e];exact λQ E hQ=>h3 λtk=>hQ ι _ _ (aR.toks R tk) rfl
 | NotIn =>
  show aP A env ι s (((rk a b).b λx=> .p (!x)) q) _ _
  rcases Dx C hu R.st h1 h2 with e | ⟨x,e,_,h3⟩
  ·rw [cA e];trivial
  ·rw [fT e];exact λQ E hQ=>h3 λtk=>hQ ι _ _ (aR.toks R tk) rfl
noncomputable def bz:V->Cm Bool
 | .bool b=> .p b
 | _=> .stk
theorem sL {v:V} {cv:Value} (R:cC A env ι q s) (h1:aL ι s.heap v cv):aP A env ι s (bz v q) (λ_ _ x y=>x=y) (mh A (truthy cv)):=by
 cases v with
 | bool b=>rw [show cv= .bool _ from h1];exact aP.ret0 R rfl λQ E hQ=>wpAny_truthy_bool hQ
 | _=>trivial
theorem xW {x:Bool} {cv:Value} (R:cC A env ι q s) (h1:cv= .bool x):aP A env ι s (.ok x q) (λ_ _ x y=>x=y) (mh A (truthy cv)):=by
 subst h1;exact aP.ret0 R rfl λQ E hQ=>wpAny_truthy_bool hQ
theorem vS (C:bF G) {l r:Expr} {op:CmpOp} {pos:Pos} {m1 m2:Cm V} (h1:Ev hq k env l m1) (h2:Ev hq k env r m2) (hm:behindInMarks op r=false) :
  Ev hq k env (.Compare l [op] [r] pos) (m1.b λa=>m2.b λb=>(ew op a b).b λx=> .p (.bool x)) :=
 λA ι q s ha R=>(aP.b (h1 A ι q s ha R) λa q' ι' b s' _ P hv=>aP.b (T':=λb' Q E s₂=>wpAny G.M A (compareOp op b b') Q E s₂) (h2 A ι' q' s' ha P.rel) λa2 q2 ι2 b2 s2 _ P2 hv2 =>
  (aP.b (T':=λc Q E s=>Q c s) (vU op C ⟨_,_,ha⟩ P2.rel (P2.vrel P.rel hv) hv2) λx q3 ι3 c s3 _ P3 hc=>aP.ret0 P3.rel (hc▸uT x) λQ E hQ=>hQ)).imp λQ E x=>wpAny_Compare1 x hm
theorem bh (C:bF G) {l r:Expr} {op:CmpOp} {pos:Pos} {m1 m2:Cm V} (h1:Ev hq k env l m1) (h2:Ev hq k env r m2) (hm:behindInMarks op r=false:=by kernel_rfl) :
  Tr hq k env (.Compare l [op] [r] pos) (m1.b λa=>m2.b λb=>(ew op a b).b λx=> .p x) :=
 λA ι q s ha R=>(aP.b (h1 A ι q s ha R) λa q' ι' b s' _ P hv=>aP.b (T':=λb' Q E s₂=>wpAny G.M A (compareOp op b b') (λc s₃=>wpAny G.M A (truthy c) Q E s₃) E s₂) (h2 A ι' q' s' ha P.rel) λa2 q2 ι2 b2 s2 _ P2 hv2 =>
  (aP.b (T':=λc Q E s=>wpAny G.M A (truthy c) Q E s) (vU op C ⟨_,_,ha⟩ P2.rel (P2.vrel P.rel hv) hv2) λx q3 ι3 c s3 _ P3 hc=>xW P3.rel hc)).imp λQ E x=>wpAny_isTrue_Compare1 x hm
theorem CY (C:bF G) {l r1 r2:Expr} {o1 o2:CmpOp} {pos:Pos} {m0 m1 m2:Cm V} (h0:Ev hq k env l m0) (h1:Ev hq k env r1 m1) (h2:Ev hq k env r2 m2) (hm:lastMarks [o1,o2] [r1,r2]=false) :
  Tr hq k env (.Compare l [o1,o2] [r1,r2] pos) (m0.b λa=>m1.b λb=>(ew o1 a b).b λx=>if x then m2.b λc=>(ew o2 b c).b λy=> .p y else .p false):=by
 intro A ι q s ha R
 refine (aP.b (T':=λa Q E s₁=>wpAny G.M A (eval r1 env) (λb s₁=>wpAny G.M A (compareOp o1 a b) (λc s₂=>wpAny G.M A (truthy c)
   (λt s₃=>if t then wpAny G.M A (testChain pos b [o2] [eval r2 env]) Q E s₃ else Q false s₃) E s₂) E s₁) E s₁) (h0 A ι q s ha R) λa q' ι' b s' _ P hv=> ?_).imp λQ E x=>isTrue_chain (wpAny_mono x (λa s₁ y=>test_link y) λ_ _ y=>y) hm
 refine aP.b (T':=λb' Q E s₁=>wpAny G.M A (compareOp o1 b b') (λc s₂=>wpAny G.M A (truthy c)
   (λt s₃=>if t then wpAny G.M A (testChain pos b' [o2] [eval r2 env]) Q E s₃ else Q false s₃) E s₂) E s₁) (h1 A ι' q' s' ha P.rel) λa2 q2 ι2 b2 s2 _ P2 hv2=> ?_
 refine aP.b (T':=λc Q E s₂=>wpAny G.M A (truthy c) (λt s₃=>if t then wpAny G.M A (testChain pos b2 [o2] [eval r2 env]) Q E s₃ else Q false s₃) E s₂) (vU o1 C ⟨_,_,ha⟩ P2.rel (P2.vrel P.rel hv) hv2) λx q3 ι3 c s3 _ P3 hc=> ?_
 subst hc
 cases x with
 | false=>exact aP.ret0 P3.rel rfl λQ E hQ=>wpAny_truthy_bool hQ
 | true =>
  refine (aP.b (T':=λc' Q E s₁=>wpAny G.M A (compareOp o2 b2 c') (λd s₂=>wpAny G.M A (truthy d) Q E s₂) E s₁) (h2 A ι3 q3 s3 ha P3.rel) λa4 q4 ι4 b4 s4 _ P4 hv4=> ?_).imp λQ E y=>wpAny_truthy_bool (test_last y)
  exact aP.b (T':=λc Q E s=>wpAny G.M A (truthy c) Q E s) (vU o2 C ⟨_,_,ha⟩ P4.rel (P4.vrel P3.rel (P3.vrel P2.rel hv2)) hv4) λx q5 ι5 c s5 _ P5 hc=>xW P5.rel hc
theorem CO (C:bF G) {l r1 r2:Expr} {o1 o2:CmpOp} {pos:Pos} {m0 m1 m2:Cm V} (h0:Ev hq k env l m0) (h1:Ev hq k env r1 m1) (h2:Ev hq k env r2 m2) (hm:lastMarks [o1,o2] [r1,r2]=false) :
  Ev hq k env (.Compare l [o1,o2] [r1,r2] pos) (m0.b λa=>m1.b λb=>(ew o1 a b).b λx=>if x then m2.b λc=>(ew o2 b c).b λy=> .p (.bool y) else .p (.bool false)):=by
 intro A ι q s ha R
 refine (aP.b (T':=λa Q E s₁=>wpAny G.M A (eval r1 env) (λb s₁=>wpAny G.M A (compareOp o1 a b) (λc s₂=>wpAny G.M A (truthy c)
   (λt s₃=>if t then wpAny G.M A (compareChain pos b [o2] [eval r2 env]) Q E s₃ else Q c s₃) E s₂) E s₁) E s₁) (h0 A ι q s ha R) λa q' ι' b s' _ P hv=> ?_).imp λQ E x=>Compare_chain (wpAny_mono x (λa s₁ y=>chain_link y) λ_ _ y=>y) hm
 refine aP.b (T':=λb' Q E s₁=>wpAny G.M A (compareOp o1 b b') (λc s₂=>wpAny G.M A (truthy c)
   (λt s₃=>if t then wpAny G.M A (compareChain pos b' [o2] [eval r2 env]) Q E s₃ else Q c s₃) E s₂) E s₁) (h1 A ι' q' s' ha P.rel) λa2 q2 ι2 b2 s2 _ P2 hv2=> ?_
 refine aP.b (T':=λc Q E s₂=>wpAny G.M A (truthy c) (λt s₃=>if t then wpAny G.M A (compareChain pos b2 [o2] [eval r2 env]) Q E s₃ else Q c s₃) E s₂) (vU o1 C ⟨_,_,ha⟩ P2.rel (P2.vrel P.rel hv) hv2) λx q3 ι3 c s3 _ P3 hc=> ?_
 subst hc
 cases x with
 | false=>exact aP.ret0 P3.rel (uT false) λQ E hQ=>wpAny_truthy_bool hQ
 | true =>
  refine (aP.b (T':=λc' Q E s₁=>wpAny G.M A (compareOp o2 b2 c') Q E s₁) (h2 A ι3 q3 s3 ha P3.rel) λa4 q4 ι4 b4 s4 _ P4 hv4=> ?_).imp λQ E y=>wpAny_truthy_bool (chain_last y)
  exact aP.b (T':=λc Q E s=>Q c s) (vU o2 C ⟨_,_,ha⟩ P4.rel (P4.vrel P3.rel (P3.vrel P2.rel hv2)) hv4) λx q5 ι5 c s5 _ P5 hc=>aP.ret0 P5.rel (hc▸uT x) λQ E hQ=>hQ
theorem d7 {x:Expr} {pos:Pos} {m:Cm Bool} (h1:Tr hq k env x m):Tr hq k env (.UnaryOp .Not x pos) (m.b λb=> .p (!b)) :=
 λA ι q s ha R=>(aP.b (T':=λb Q E s₁=>Q (!b) s₁) (h1 A ι q s ha R) λa q' ι' b s' _ P hv=>aP.ret0 P.rel (hv▸rfl) λQ E hQ=>hQ).imp λQ E x=>wpAny_isTrue_Not x
theorem Gb {x:Expr} {pos:Pos} {m:Cm V} (h1:Ev hq k env x m):Ev hq k env (.UnaryOp .Not x pos) (m.b λv=>(bz v).b λb=> .p (.bool (!b))) :=
 λA ι q s ha R=>(aP.b (T':=λv Q E s₁=>wpAny G.M A (truthy v) (λb s₁=>Q (.bool (!b)) s₁) E s₁) (h1 A ι q s ha R) λa q' ι' b s' _ P hv =>
  aP.b (T':=λb Q E s₁=>Q (Value.bool (!b)) s₁) (sL P.rel hv) λa2 q2 ι2 b2 s2 _ P2 hv2=>by subst hv2;exact aP.ret0 P2.rel (uT _) λQ E hQ=>hQ).imp λQ E x=>wpAny_UnaryOp (wpAny_mono x (λv s₁ y=>not_value y) λ_ _ y=>y)
noncomputable def FC:V->Cm V
 | .int i=> .p (.int (-i))
 | _=> .stk
theorem CP {x:Expr} {pos:Pos} {m:Cm V} (h1:Ev hq k env x m):Ev hq k env (.UnaryOp .USub x pos) (m.b λv=>FC v) :=
 λA ι q s ha R=>(aP.b (T':=λv Q E s₁=>wpAny G.M A (unaryOp .USub v) Q E s₁) (h1 A ι q s ha R) λa q' ι' b s' _ P hv=>by
  cases a with
  | int i=>obtain ⟨t,rfl⟩:=hv;exact aP.ret P.rel (zt _ _) λQ E hQ=>PySem.P.neg_int hQ
  | _=>trivial).imp λQ E x=>wpAny_UnaryOp x
theorem d8 {e:Expr} {m:Cm V} (h1:Ev hq k env e m) (he:isTrue e env (eval e env)=(do let v <- eval e env;standAt e.pos;holding [v] (truthy v)):=by rfl):Tr hq k env e (m.b λv=>bz v) :=
 λA ι q s ha R=>(aP.b (T':=λv Q E s₁=>wpAny G.M A (truthy v) Q E s₁) (h1 A ι q s ha R) λa q' ι' b s' _ P hv=>sL P.rel hv).imp λQ E x=>wpAny_isTrue_value x he
abbrev GW (hq:Bool) (k:Nat) (env:Env) (op:BoolOp) (es:List Expr) (m:Cm Bool):Prop:=Sem.Is hq k env (λA=>mh A (allTrue op es env)) m (λ_ _ a b=>a=b)
theorem pd:GW hq k env .And [] (.p true):=λA ι q s ha R=>aP.ret0 R rfl λQ E hQ=>wpAny_allTrue_And_nil hQ
theorem fS:GW hq k env .Or [] (.p false):=λA ι q s ha R=>aP.ret0 R rfl λQ E hQ=>wpAny_allTrue_Or_nil hQ
theorem js {x:Expr} {es:List Expr} {m m':Cm Bool} (h1:Tr hq k env x m) (h2:GW hq k env .And es m'):GW hq k env .And (x::es) (m.b λb=>if b then m' else .p false) :=
 λA ι q s ha R=>(aP.b (T':=λb Q E s₁=>if b then wpAny G.M A (allTrue .And es env) Q E s₁ else Q false s₁) (h1 A ι q s ha R) λa q' ι' b s' _ P hv=>by
  subst hv
  cases a with
  | true=>exact (h2 A ι' q' s' ha P.rel).imp λQ E x=>x
  | false=>exact aP.ret0 P.rel rfl λQ E hQ=>hQ).imp λQ E x=>wpAny_allTrue_And_cons x
theorem cW {x:Expr} {es:List Expr} {m m':Cm Bool} (h1:Tr hq k env x m) (h2:GW hq k env .Or es m'):GW hq k env .Or (x::es) (m.b λb=>if b then .p true else m') :=
 λA ι q s ha R=>(aP.b (T':=λb Q E s₁=>if b then Q true s₁ else wpAny G.M A (allTrue .Or es env) Q E s₁) (h1 A ι q s ha R) λa q' ι' b s' _ P hv=>by
  subst hv
  cases a with
  | true=>exact aP.ret0 P.rel rfl λQ E hQ=>hQ
  | false=>exact (h2 A ι' q' s' ha P.rel).imp λQ E x=>x).imp λQ E x=>wpAny_allTrue_Or_cons x
theorem du {op:BoolOp} {es:List Expr} {pos:Pos} {m:Cm Bool} (h1:GW hq k env op es m):Tr hq k env (.BoolOp op es pos) m :=
 λA ι q s ha R=>(h1 A ι q s ha R).imp λQ E x=>wpAny_isTrue_BoolOp x
abbrev HW (hq:Bool) (k:Nat) (env:Env) (op:BoolOp) (es:List Expr) (m:Cm V):Prop:= ∀pos,Sem.Is hq k env (λA=>mh A (boolOp pos op (evalEach es env))) m (aL)
theorem oj {op:BoolOp} {e:Expr} {m:Cm V} (h1:Ev hq k env e m):HW hq k env op [e] m:=λpos A ι q s ha R=>(h1 A ι q s ha R).imp λQ E x=>x
theorem qh {x y:Expr} {es:List Expr} {m m':Cm V} (h1:Ev hq k env x m) (h2:HW hq k env .And (y::es) m') :
  HW hq k env .And (x::y::es) (m.b λv=>(bz v).b λb=>if b then m' else .p v):=λpos A ι q s ha R=>by
 refine (aP.b (T':=λv Q E s₁=>wpAny G.M A (truthy v) (λt s₂=>if t then wpAny G.M A (boolOp pos .And (evalEach (y::es) env)) Q E s₂ else Q v s₂) E s₁) (h1 A ι q s ha R) λa q' ι' b s' _ P hv =>
  aP.b (T':=λt Q E s₂=>if t then wpAny G.M A (boolOp pos .And (evalEach (y::es) env)) Q E s₂ else Q b s₂) (sL P.rel hv) λa2 q2 ι2 b2 s2 _ P2 hv2=> ?_).imp λQ E x=> ?_
 ·subst hv2
  cases a2 with
  | true=>exact (h2 pos A ι2 q2 s2 ha P2.rel).imp λQ E x=>x
  | false=>exact aP.ret0 P2.rel (P2.vrel P.rel hv) λQ E hQ=>hQ
 ·show wpAny G.M A (do
   let v <- eval _ env
   standAt pos
   let t <- holding [v] (truthy v)
   match BoolOp.And,t with
   | .And,false | .Or,true=>pure v
   | _,_=>boolOp pos .And (evalEach (y::es) env)) Q E s
  refine wpAny_bind (wpAny_mono x (λv s₁ h₁=>wpAny_bind (wpAny_standAt (wpAny_bind (wpAny_holding (wpAny_mono h₁ (λt s₂ h₂=> ?_) λ_ _ x=>x))))) λ_ _ x=>x)
  cases t with
  | false=>exact wpAny_pure h₂
  | true=>exact h₂
theorem Ic {x y:Expr} {es:List Expr} {m m':Cm V} (h1:Ev hq k env x m) (h2:HW hq k env .Or (y::es) m') :
  HW hq k env .Or (x::y::es) (m.b λv=>(bz v).b λb=>if b then .p v else m'):=λpos A ι q s ha R=>by
 refine (aP.b (T':=λv Q E s₁=>wpAny G.M A (truthy v) (λt s₂=>if t then Q v s₂ else wpAny G.M A (boolOp pos .Or (evalEach (y::es) env)) Q E s₂) E s₁) (h1 A ι q s ha R) λa q' ι' b s' _ P hv =>
  aP.b (T':=λt Q E s₂=>if t then Q b s₂ else wpAny G.M A (boolOp pos .Or (evalEach (y::es) env)) Q E s₂) (sL P.rel hv) λa2 q2 ι2 b2 s2 _ P2 hv2=> ?_).imp λQ E x=> ?_
 ·subst hv2
  cases a2 with
  | true=>exact aP.ret0 P2.rel (P2.vrel P.rel hv) λQ E hQ=>hQ
  | false=>exact (h2 pos A ι2 q2 s2 ha P2.rel).imp λQ E x=>x
 ·show wpAny G.M A (do
   let v <- eval _ env
   standAt pos
   let t <- holding [v] (truthy v)
   match BoolOp.Or,t with
   | .And,false | .Or,true=>pure v
   | _,_=>boolOp pos .Or (evalEach (y::es) env)) Q E s
  refine wpAny_bind (wpAny_mono x (λv s₁ h₁=>wpAny_bind (wpAny_standAt (wpAny_bind (wpAny_holding (wpAny_mono h₁ (λt s₂ h₂=> ?_) λ_ _ x=>x))))) λ_ _ x=>x)
  cases t with
  | false=>exact h₂
  | true=>exact wpAny_pure h₂
theorem iw {op:BoolOp} {es:List Expr} {pos:Pos} {m:Cm V} (h1:HW hq k env op es m):Ev hq k env (.BoolOp op es pos) m :=
 λA ι q s ha R=>(h1 pos A ι q s ha R).imp λQ E x=>x
end
section
variable {hq:Bool} {k:Nat} {env:Env} {A:Around} {ι:List Addr} {q:S} {s:Shared} {H:Hp} {h:Heap}
theorem bn {α β:Type} [BEq α] [LawfulBEq α] {x:α} {y:β}:∀ {l:List (α×β)},l.lookup x=some y->(x,y)∈l
  | [],e=>by simp at e
  | (a,b)::r,e=>by
   rw [List.lookup_cons] at e
   split at e
   ·rename_i q;cases e;rw [eq_of_beq q];exact .head _
   ·exact .tail _ (bn e)
theorem aR.ownChange (R:cC A env ι q s) {h':Heap} {tk:Nat} {a:Addr} {l':bk} (ha:a∈own env) (hs:Heap.SameBut a s.heap h')
  (ho:∀o,s.heap.get? a=some o-> ∀es n,o.data= .dict es n-> ∃o',h'.get? a=some o'/\ ∃es n,o'.data= .dict es n)
  (fr':nE s.heap h'->jK env l' ι h' h'):aR A env ι s ι ⟨l',q.H⟩ { s with heap:=h',toks:=tk }:=by
 have ext:=hs.extBut
 have ne:∀b o,s.heap.get? b=some o->b∉own env++ι->h'.get? b=some o:=λb o e hb=>ext b o (λq=>hb (aaE _ (q▸ha))) e
 have im:=R.imm' (h':=h') λb o e hW=>⟨o.slots,ne b o e hW⟩
 haveI kp:Kp (own env++ι) (kx A) s.heap h':=⟨λb o e=>by
   by_cases hb:b=a
   ·subst hb;obtain ⟨o',e',_⟩:=(fr' im).mut (λ_ _ e=>e) ha;exact ⟨o',e'⟩
   ·exact ⟨o,ext b o hb e⟩,λb o e hW=>⟨o.slots,ne b o e hW⟩,λb o e hW _=>ne b o e hW⟩
 have pr:ι<+:ι:=aaj _
 have hai:a∉ι:=R.fr.dis a ha
 refine ⟨pr,⟨⟨?_,R.st.len,R.st.nodup,R.st.fresh,?_⟩,fr' im,?_,R.gens,R.os,R.hn.imm im⟩,kp,λ_ h=> .inl h⟩
 ·intro b o e
  exact ext b o (λq=>by rw [q,R.fr.fresh a ha] at e;cases e) (R.st.keep b o e)
 ·intro j x y e1 e2
  exact (R.st.obj j x y e1 e2).at pr im λo e=>ext x o (λq=>hai (q▸aaI e1)) e
 ·intro env' he
  refine bS λY9 y9=> ?_
  obtain ⟨b1,L,o',b2,b3,⟨es,n,b4⟩,b5,b6⟩:=R.fs env' he
  refine y9 ?_
  by_cases hL:L=a
  ·subst hL
   refine bS λY9 y9=> ?_
   obtain ⟨o2,c1,es',n',c2⟩:=ho o' b3 es n b4
   refine y9 ?_
   exact ⟨b1,L,o2,b2,c1,⟨es',n',c2⟩,b5,b6⟩
  ·exact ⟨b1,L,o',b2,ext L o' hL b3,⟨es,n,b4⟩,b5,b6⟩
theorem m5 {l:bk} {x y:String} {v w:V} (e:upd l x v y=some w):(y=x/\w=v)\/(y≠x/\l y=some w):=by
 unfold upd at e
 split at e
 ·rename_i h;exact .inl ⟨h,(Option.some.inj e).symm⟩
 ·rename_i h;exact .inr ⟨h,e⟩
def xS (env:Env) (x:String):Prop:=env.kindOf (Str.ofString x)=some .local\/(env.kindOf (Str.ofString x)=some .cell/\(env.cells.lookup (Str.ofString x)).isSome=true)
theorem o9 {x:String} {v:V} {cv:Value} (hx:xS env x) (R:cC A env ι q s) (hv:aL ι s.heap v cv) :
  aP A env ι s (.ok () ⟨upd q.l x v,q.H⟩) (λ_ _ _ _=>True) (mh A (storeName env (Str.ofString x) cv)):=by
 intro Q E hQ
 haveI hp:(env.scope.kind == .class||(env.scope.kind == .module&&env.locals != env.globals))=false:=by rw [R.fr.kind];rfl
 rcases hx with hx | ⟨hx,hc⟩
 ·obtain ⟨m,hn,hm⟩:=R.fr.loc
  refine wpAny_storeName_local hx hn (λh' hn' hs=> ?_) hp
  refine hQ ι () _ (aR.ownChange R (.head _) hs (λo _ es n _=> ?_) λim=> ?_) trivial
  ·obtain ⟨o',es',ep',h1,h2,_⟩:=hn';exact ⟨o',h1,es',ep',h2⟩
  ·have pr:ι<+:ι:=aaj _
   refine ⟨R.fr.kind,R.fr.glob,R.fr.blt,⟨_,hn',λy w e1 e2=> ?_⟩,λy w e1 e2=> ?_,λp hp=> ?_,R.fr.ndup,R.fr.dis,R.fr.fresh⟩
   ·rcases m5 e1 with ⟨rfl,rfl⟩ | ⟨hne,e1⟩
    ·exact ⟨cv,by simp,hv.mono pr im⟩
    ·obtain ⟨cw,a,b⟩:=hm y w e1 e2
     exact ⟨cw,by rw [if_neg (λq=>hne (fJ q))];exact a,b.mono pr im⟩
   ·rcases m5 e1 with ⟨rfl,rfl⟩ | ⟨hne,e1⟩
    ·rw [hx] at e2;rcases e2 with e2 | e2<;>cases e2
    ·obtain ⟨c,o,cw,a,b,d,f⟩:=R.fr.cel y w e1 e2
     refine ⟨c,o,cw,a,hs.extBut c o (λq=> ?_) b,d,f.mono pr im⟩
     obtain ⟨oL,es,ep,hL,hd,_⟩:=hn
     rw [q,hL] at b;cases b;rw [hd] at d;cases d
   ·obtain ⟨o,ov,a,b⟩:=R.fr.cells p hp
    refine ⟨o,ov,hs.extBut p.2 o (λq=> ?_) a,b⟩
    obtain ⟨oL,es,ep,hL,hd,_⟩:=hn
    rw [q,hL] at a;cases a;rw [hd] at b;cases b
 ·obtain ⟨c,hc⟩:=aaR.mp hc
  have hmem:=bn hc
  have hown:c∈own env:=List.mem_cons_of_mem _ (aae.mpr ⟨_,hmem,rfl⟩)
  obtain ⟨o,ov,h1,h2⟩:=R.fr.cells _ hmem
  refine wpAny_storeName_cell R.fr.kind hx hc ⟨o,h1,h2⟩ (λh' hc' hs=> ?_)
  obtain ⟨o',h3,h4⟩:=hc'
  refine hQ ι () _ (aR.ownChange (tk:=s.toks) R hown hs (λo2 e es n d=> ?_) λim=> ?_) trivial
  ·dsimp only at h1;rw [h1] at e;cases e;rw [h2] at d;cases d
  ·have pr:ι<+:ι:=aaj _
   refine ⟨R.fr.kind,R.fr.glob,R.fr.blt,?_,λy w e1 e2=> ?_,λp hp=> ?_,R.fr.ndup,R.fr.dis,R.fr.fresh⟩
   ·obtain ⟨m,hn,hm⟩:=R.fr.loc
    refine ⟨m,hn.sameBut hs (λq=> ?_),λy w e1 e2=> ?_⟩
    ·obtain ⟨oL,es,ep,hL,hd,_⟩:=hn
     dsimp only at h1
     rw [q,h1] at hL;cases hL;rw [h2] at hd;cases hd
    ·rcases m5 e1 with ⟨rfl,rfl⟩ | ⟨hne,e1⟩
     ·rw [hx] at e2;cases e2
     ·obtain ⟨cw,a,b⟩:=hm y w e1 e2;exact ⟨cw,a,b.mono pr im⟩
   ·rcases m5 e1 with ⟨rfl,rfl⟩ | ⟨hne,e1⟩
    ·exact ⟨c,o',cv,hc,h3,h4,hv.mono pr im⟩
    ·obtain ⟨c2,o2,cw,a,b,d,f⟩:=R.fr.cel y w e1 e2
     refine ⟨c2,o2,cw,a,hs.extBut c2 o2 (λq=> ?_) b,d,f.mono pr im⟩
     subst q
     haveI hm2:=bn a
     exact hne (fJ (congrArg (·.1) (nodup_snd R.fr.ndup hm2 hmem)))
   ·by_cases hpc:p.2=c
    ·exact ⟨o',some cv,by rw [hpc];exact h3,h4⟩
    ·obtain ⟨o2,ov2,a,b⟩:=R.fr.cells p hp
     exact ⟨o2,ov2,hs.extBut p.2 o2 hpc a,b⟩
where
 nodup_snd:∀ {l:List (Str×Addr)} {x y:Str} {c:Addr},(l.map (·.2)).Nodup->(x,c)∈l->(y,c)∈l->((x,c):Str×Addr)=(y,c)
  | [],_,_,_,_,h,_=>nomatch h
  | p::r,x,y,c,hn,h1,h2=>by
   rw [aas,aaP] at hn
   rcases aah.mp h1 with e1 | h1<;>rcases aah.mp h2 with e2 | h2
   ·rw [e1,e2]
   ·exact absurd (aae.mpr ⟨_,h2,by rw [<- e1]⟩) hn.1
   ·exact absurd (aae.mpr ⟨_,h1,by rw [<- e2]⟩) hn.1
   ·exact nodup_snd hn.2 h1 h2
theorem yo:vT ι h .next .next:=rfl
noncomputable def aY (x:String) (v:V):Cm Unit:=λq=> .ok () ⟨upd q.l x v,q.H⟩
theorem au {x:String} {p pos:Pos} {e:Expr} {m:Cm V} (h1:Ev hq k env e m) (hx:xS env x:=by exact .inl ∅) (hs:swapsWith e (some (.Name (Str.ofString x) p)) pos.line env=pure false:=by rfl) :
  Ex hq k env (.Assign [.Name (Str.ofString x) p] e pos) (m.b λv=>(aY x v).b λ_=> .p .next) :=
 λA ι q s ha R=>(aP.b (T':=λv Q E s₁=>wpAny G.M A (storeName env (Str.ofString x) v) (λ_=>Q .next) E s₁) (h1 A ι q s ha R) λa q' ι' b s' _ P hv =>
  aP.b (m:=aY x a) (T':=λ_ Q E s₁=>Q Flow.next s₁) (o9 hx P.rel hv) λa2 q2 ι2 b2 s2 _ P2 _=>aP.ret0 (REL:=vT) P2.rel yo λQ E hQ=>hQ).imp λQ E x=>wpAny_Assign_Name x hs
theorem aU {e:Expr} {pos:Pos} {m:Cm V} (h1:Ev hq k env e m):Ex hq k env (.Return (some e) pos) (m.b λv=> .p (.ret v)) :=
 λA ι q s ha R=>(aP.b (T':=λv Q E s₁=>Q (.ret v) s₁) (h1 A ι q s ha R) λa q' ι' b s' _ P hv=>aP.ret0 P.rel ⟨b,rfl,hv⟩ λQ E hQ=>hQ).imp λQ E x=>wpAny_Return_some x
theorem cu {test:Expr} {body orelse:List Stmt} {pos:Pos} {m:Cm Bool} {m1 m2:Cm Fl} (h0:Tr hq k env test m) (h1:CR hq k env body m1) (h2:CR hq k env orelse m2) :
  Ex hq k env (.If test body orelse pos) (m.b λb=>if b then m1 else m2) :=
 λA ι q s ha R=>(aP.b (T':=λb Q E s₂=>if b then wpAny G.M A (execs body env) Q E s₂ else wpAny G.M A (execs orelse env) Q E s₂) (h0 A ι q s ha R) λa q' ι' b s' _ P hv=>by
  subst hv
  cases a with
  | true=>exact (h1 A ι' q' s' ha P.rel).imp λQ E x=>x
  | false=>exact (h2 A ι' q' s' ha P.rel).imp λQ E x=>x).imp λQ E x=>wpAny_If x
noncomputable def ay (m:Cm Fl) (m':Cm Fl):Cm Fl:=m.b λf=>match f with | .next=>m' | .ret v=> .p (.ret v)
theorem aQ:CR hq k env [] (.p .next):=λA ι q s ha R=>aP.ret0 R yo λQ E hQ=>wpAny_execs_nil hQ
theorem aj {st:Stmt} {rest:List Stmt} {m m':Cm Fl} (h1:Ex hq k env st m) (h2:CR hq k env rest m'):CR hq k env (st::rest) (ay m m') :=
 λA ι q s ha R=>(aP.b (T':=λf Q E s'=>match f with | .next=>wpAny G.M A (execs rest env) Q E s' | f=>Q f s') (h1 A ι q s ha R) λa q' ι' b s' _ P hv=>by
  cases a with
  | next=>rw [show b= .next from hv];exact (h2 A ι' q' s' ha P.rel).imp λQ E x=>x
  | ret v=>obtain ⟨cv,rfl,hv⟩:=hv;exact aP.ret0 P.rel ⟨cv,rfl,hv⟩ λQ E hQ=>hQ).imp λQ E x=>wpAny_execs_cons x
theorem ar {st:Stmt} {m:Cm Fl} (h1:Ex hq k env st m):CR hq k env [st] m :=
 λA ι q s ha R=>(h1 A ι q s ha R).imp λQ E x=>wpAny_execs_cons (wpAny_mono x (λf s' y=>by cases f<;>first | exact wpAny_execs_nil y | exact y) λ_ _ y=>y)
theorem jt {e:Expr} {pos:Pos} {m:Cm V} (h1:Ev hq k env e m) (hi:interactive env=false) (hs:swapsWith e none pos.line env=pure false) :
  Ex hq k env (.Expr e pos) (m.b λ_=> .p .next) :=
 λA ι q s ha R=>(aP.b (T':=λv Q E s₁=>Q .next s₁) (h1 A ι q s ha R) λa q' ι' b s' _ P hv=>aP.ret0 P.rel yo λQ E hQ=>hQ).imp λQ E x=>by
  show wpAny _ _ _ _ _ _
  rw [exec_Expr env e pos hi hs]
  refine wpAny_bind (wpAny_standAt (wpAny_bind (wpAny_mono x (λv s' h'=> ?_) λ_ _ x=>x)))
  exact wpAny_dropValue h'
end
section
variable {hq:Bool} {k:Nat} {env:Env} {A:Around} {ι:List Addr} {q:S} {s:Shared} {H:Hp} {h:Heap}
noncomputable def u7 (f:String) (v:V):List (String×V)->List (String×V)
 | []=>[(f,v)]
 | (g,w)::r=>if g=f then (g,v)::r else (g,w)::u7 f v r
theorem gO {f g:String} {t:Tok}:(Value.str (Str.ofString g) t).isStr (Str.ofString f)=decide (g=f):=by
 show (Str.ofString g==Str.ofString f)=_
 by_cases e:g=f
 ·subst e;simp
 ·haveI:¬Str.ofString g=Str.ofString f:=λx=>e (fJ x)
  simp [e,this]
theorem pn:∀ {fs:List (String×V)} {es:List DictEntry},qi ι h fs es-> ∀(f:String),
  (match fs.lookup f with | some v=> ∃cv,getL (Str.ofString f) es=some (some cv)/\aL ι h v cv | none=>getL (Str.ofString f) es=some none)
 | [],_,x,f=>by rw [show _=[] from x];rfl
 | (g,w)::fs,_,z2,f=>by
  obtain ⟨t,cv,es',q,a,b⟩:=z2
  subst q
  haveI ih:=pn b f
  rw [List.lookup_cons]
  dsimp only at a ⊢
  by_cases e:f=g
  ·subst e
   simp only [beq_self_eq_true]
   refine ⟨cv,?_,a⟩
   unfold getL
   rw [aaG (by show Value.isStr _ _=true;rw [gO];simp)]
  ·haveI e':(f==g)=false:=by simpa using e
   rw [e']
   haveI hne:¬(g=f):=λx=>e x.symm
   haveI:getL (Str.ofString f) (⟨PyData.keyHash G.w.params (Str.ofString g),.str (Str.ofString g) t,cv⟩::es')=getL (Str.ofString f) es':=by
    unfold getL
    rw [aay (by show ¬(Value.isStr _ _=true);rw [gO];simpa using hne)]
    haveI:(DictEntry.refKey ⟨PyData.keyHash G.w.params (Str.ofString g),.str (Str.ofString g) t,cv⟩)=false:=rfl
    simp only [List.any_cons,this,Bool.false_or]
   rw [this]
   exact ih
theorem yy {f:String} {v:V} {cv:Value} {tk:Tok} (hv:aL ι h v cv):∀ {fs:List (String×V)} {es:List DictEntry},qi ι h fs es ->
  qi ι h (u7 f v fs) (putL (Str.ofString f) (PyData.keyHash G.w.params (Str.ofString f)) (.str (Str.ofString f) tk) cv es)
 | [],_,x=>by rw [show _=[] from x];exact ⟨tk,cv,[],rfl,hv,rfl⟩
 | (g,w)::fs,_,z2=>by
  obtain ⟨t,cw,es',q,a,b⟩:=z2
  subst q
  show qi ι h (if g=f then (g,v)::fs else (g,w)::u7 f v fs) (if (Value.str (Str.ofString g) t).isStr (Str.ofString f) then _ else _::putL (Str.ofString f) (PyData.keyHash G.w.params (Str.ofString f)) (.str (Str.ofString f) tk) cv es')
  rw [gO]
  by_cases e:g=f
  ·subst e;simp only [decide_true,if_true];exact ⟨t,cv,es',rfl,hv,b⟩
  ·simp only [e,decide_false,Bool.false_eq_true,if_false];exact ⟨t,cw,_,rfl,a,yy hv b⟩
theorem yx:∀ {fs:List (String×V)} {es:List DictEntry},qi ι h fs es->es.length=fs.length
 | [],_,x=>by rw [show _=[] from x];rfl
 | _::_,_,z2=>by obtain ⟨_,_,_,q,_,b⟩:=z2;subst q;simp [yx b]
noncomputable def zO (K:Frag) (C:Addr) (name:Str):Bool:=plainGet K C name&&hasDictIn K C&&(match findIn K (.ref C) name with | some attr=>noGet K attr | none=>false)
noncomputable def Ek (K:Frag) (C:Addr) (name:Str):Bool :=
 (findIn K (.ref C) "__setattr__" == some (some (.builtin "object.__setattr__")))&&plainOver K C&&(takerIn K C name==some none)&&hasDictIn K C
def rV (f:String):Prop:= ∀c C,G.cls c=some C->zO G.K C (Str.ofString f)=true
def rW (f:String):Prop:= ∀c C,G.cls c=some C->Ek G.K C (Str.ofString f)=true
theorem zv {v:V} {cv:Value} (r:aL ι h v cv):handedIn cv=true:=by
 cases v with
 | none=>rw [show cv= .none from r];rfl
 | bool b=>rw [show cv= .bool b from r];rfl
 | int i=>obtain ⟨t,rfl⟩:=r;rfl
 | str y=>obtain ⟨t,rfl⟩:=r;rfl
 | tup xs=>obtain ⟨a,vs,rfl,_⟩:=r;rfl
 | ref i=>obtain ⟨a,_,rfl⟩:=r;rfl
 | inst c i=>obtain ⟨a,x,C,o,_,_,rfl,_⟩:=r;rfl
 | exc c=>obtain ⟨x,C,o,_,rfl,_⟩:=r;rfl
 | scr=>rw [show cv= .ref G.sa from r];rfl
theorem xd (R:er ι H h) {c:String} {i:Nat} {cv:Value} {fs:List (String×V)} (r:aL ι h (.inst c i) cv) (e:H[i]? = some (.flds fs)) :
  ∃a x C ox es n,A7 (ι[i]? = some a) (G.cls c=some C) (cv= .ref x) (InstAt h x ox C (some (dictOf es n))) (ox.dict=some a) (h.get? a=some (dictOf es n)) (qi ι h fs es):=by
 refine bS λY9 y9=> ?_
 obtain ⟨a,x,C,o,h1,h2,h3,h4,h5,h6,h7⟩:=r
 obtain ⟨a',es,n,g1,g2,g3⟩:=R.flds e
 refine y9 ?_
 obtain rfl:a=a':=Option.some.inj (h1.symm.trans g1)
 exact ⟨a,x,C,o,es,n,h1,h2,h3,⟨h4,h5,by unfold notCls;rw [h7],by rw [h6];exact g2⟩,h6,g2,g3⟩
noncomputable def aA (f:String):V->Cm V
 | .inst _ i=>λq=>match q.H[i]? with
  | some (.flds fs)=>(match fs.lookup f with | some v=> .ok v q | none=> .stuck)
  | _=> .stuck
 | _=> .stk
theorem GO (C:bF G) {f:String} (hf:rV f) {v:V} {cv:Value} {ex:Bool} (R:cC A env ι q s) (h1:aL ι s.heap v cv):aP A env ι s (aA f v q) (aL) (mh A (getAttr cv (Str.ofString f) ex)):=by
 cases v with
 | inst c i =>
  unfold aA;dsimp only
  cases e:q.H[i]? with
  | none=>trivial
  | some o =>
  cases o with
  | flds fs =>
   refine bS λY9 y9=> ?_
   obtain ⟨a,x,C',ox,es,n,g1,g2,rfl,I,g3,g4,g5⟩:=xd R.st h1 e
   refine y9 ?_
   haveI hg:=pn g5 f
   dsimp only
   cases hv:fs.lookup f with
   | none=>trivial
   | some v =>
    rw [hv] at hg
    refine bS λY9 y9=> ?_
    obtain ⟨cw,hl,hr⟩:=hg
    haveI hok:=hf c C' g2
    unfold zO at hok
    rw [Bool.and_eq_true,Bool.and_eq_true] at hok
    obtain ⟨⟨k1,k2⟩,k3⟩:=hok
    refine y9 ?_
    cases ha:findIn G.K (.ref C') (Str.ofString f) with
    | some attr =>
     rw [ha] at k3
     exact aP.ret R hr λQ E hQ=>get_value (C.X.keeps R.st.keep) I (plainGet_of k1).1 (findObj_own k2 ha k3 hl) (zv hr) hQ
    | none=>rw [ha] at k3;cases k3
  | _=>trivial
 | _=>trivial
theorem aB (C:bF G) {f:String} (hf:rV f) {e:Expr} {pos:Pos} {m:Cm V} (h1:Ev hq k env e m)
  (he:eval (.Attribute e (Str.ofString f) pos) env=(do let o <- eval e env;standAt pos.atName;let r <- holding [o] (getAttr o (Str.ofString f) true);letTemporaryGo e o r;pure r):=by rfl) :
  Ev hq k env (.Attribute e (Str.ofString f) pos) (m.b λv=>aA f v) :=
 λA ι q s ha R=>(aP.b (T':=λv Q E s₁=>wpAny G.M A (getAttr v (Str.ofString f) true) Q E s₁) (h1 A ι q s ha R) λa q' ι' b s' _ P hv=>GO C hf P.rel hv).imp λQ E x=>Attribute_any_ x he
theorem FF {prog:Program} {w:World} {K:Frag} {C x dx:Addr} {ox:Obj} {R:Result->Shared->Prop} {name:Str} {tk:Tok} {v:Value} {es:List DictEntry} {n:Nat} {s:Shared} {A:Around} (X:K.In s.heap)
  (I:InstAt s.heap x ox C (some (dictOf es n))) (hd:ox.dict=some dx) (D:s.heap.get? dx=some (dictOf es n)) (hp:plainOver K C=true) (ht:takerIn K C name=some none) (hh:hasDictIn K C=true)
  (hl:(getL name es).isSome=true) (hz:(putL name (PyData.keyHash w.params name) (.str name s.toks) v es).length<=1000)
  (h:∀h',h'.get? dx=some (dictOf (putL name (PyData.keyHash w.params name) (.str name s.toks) v es) (putN name es n))->Heap.SameBut dx s.heap h'->R (.ok (.ret .none)) { s with heap:=h',toks:=s.toks+1 }) :
  codeAny (model prog w) A (.call (.builtin "object.__setattr__") ⟨[.ref x,.str name tk,v],[]⟩) R s:=by
 refine osa_open X I hp ht λb=> ?_
 refine bS λY9 y9=> ?_
 obtain ⟨cd,hc,hd'⟩:=any_some hh
 obtain ⟨hx,hcl,hn,-⟩:=I
 obtain ⟨oc,odi,oda,osl⟩:=ox
 refine y9 ?_
 dsimp only at hcl hd
 subst hcl hd
 refine wpAny_bind (wpAny_pure (wpAny_bind (wpAny_bind (wpAny_loadPart hx (wpAny_bind ((looks_clsIn X hc).here ?_))))))
 rw [hd']
 refine wpAny_pure (a:=some dx) (wpAny_bind (wpAny_pure (wpAny_bind ?_)))
 unfold nsSet
 refine wpAny_bind (wpAny_bind (wpAny_askSetting (wpAny_pure (wpAny_bind (wpAny_mkText (wpAny_bind (wpAny_loadPart D ?_)))))))
 dsimp only
 haveI c:(!(es.toArray).any (·.key.isStr name)&&(es.toArray).any (·.refKey))=false:=by
  unfold getL at hl
  split at hl
  ·rename_i en he
   haveI:(es.toArray).any (·.key.isStr name)=true:=by simpa using ⟨en,aaT he,by simpa using List.find?_some he⟩
   rw [this];rfl
  ·split at hl
   ·cases hl
   ·rename_i z
    haveI:(es.toArray).any (·.refKey)=false:=by simpa using z
    rw [this,Bool.and_false]
 have U:=Heap.get?_update_self (h:=s.heap) (Obj.putName name (PyData.keyHash w.params name) (.str name s.toks) v) D (by rw [putName_dict];rfl)
 rw [putName_dict] at U
 rw [aRefKeyMayBeTheName_at,c]
 refine wpAny_updatePart D ?_
 refine wpAny_bind (wpAny_lookBehind U (pastItsLine_dict (by rw [aa1,sizeLine_eq];exact bO 0x190bc000003e8a0011 hz)) ?_)
 exact wpAny_pure (h _ U (Heap.SameBut.update ..))
noncomputable def bT (f:String) (v:V):V->Cm Unit
 | .inst _ i=>λq=>match q.H[i]? with
  | some (.flds fs)=>if fs.length<100 then .ok () { q with H:=q.H.set i (.flds (u7 f v fs)) } else .stuck
  | _=> .stuck
 | _=> .stk
theorem yA (f:String) (v:V):∀fs:List (String×V),(u7 f v fs).length<=fs.length+1
 | []=>aaL _
 | (g,w)::r=>by
  show List.length (if g=f then (g,v)::r else (g,w)::u7 f v r)<=_
  split
  ·exact Nat.le_succ _
  ·exact Nat.succ_le_succ (yA f v r)
theorem BP (C:bF G) {f:String} (hf:rW f) {o v:V} {co cv:Value} (R:cC A env ι q s) (h1:aL ι s.heap o co) (h2:aL ι s.heap v cv) :
  aP A env ι s (bT f v o q) (λ_ _ _ _=>True) (mh A (setAttr co (Str.ofString f) cv)):=by
 cases o with
 | inst c i =>
  unfold bT;dsimp only
  cases e:q.H[i]? with
  | none=>trivial
  | some o =>
  cases o with
  | flds fs =>
   dsimp only
   split
   ·rename_i hlen
    refine bS λY9 y9=> ?_
    obtain ⟨a,x,C',ox,es,n,g1,g2,rfl,I,g3,g4,g5⟩:=xd R.st h1 e
    haveI hok:=hf c C' g2
    unfold Ek at hok
    simp only [Bool.and_eq_true,beq_iff_eq] at hok
    obtain ⟨⟨⟨k1,k2⟩,k3⟩,k4⟩:=hok
    refine y9 ?_
    have hg:=pn g5 f
    haveI hl:(getL (Str.ofString f) es).isSome=true:=by
     cases hv:fs.lookup f with
     | some v=>rw [hv] at hg;obtain ⟨cw,hg,_⟩:=hg;rw [hg];rfl
     | none=>rw [hv] at hg;rw [hg];rfl
    intro Q E hQ
    have fr:=yy (tk:=s.toks+1) (f:=f) h2 g5
    refine set_plain (C.X.keeps R.st.keep) I k1 (FF (s:={ s with toks:=s.toks+1 }) (C.X.keeps R.st.keep) I g3 g4 k2 k3 k4 hl ?_ λh' e1 e2=> ?_)
    ·show (putL _ _ (Value.str _ (s.toks+1)) _ _).length<=1000
     rw [yx fr]
     haveI:=yA f v fs
     exact bP 0x3e8a10190c101000064a0112 hlen this
    ·exact hQ ι () _ (aR.set R g1 e2 λim=>⟨_,_,e1,fr.mono (aaj _) im⟩) trivial
   ·trivial
  | _=>trivial
 | _=>trivial
theorem dN (C:bF G) {f:String} (hf:rW f) {o e:Expr} {p pos:Pos} {m1 m2:Cm V} (h1:Ev hq k env e m1) (h2:Ev hq k env o m2)
  (hs:swapsWith e (some (.Attribute o (Str.ofString f) p)) pos.line env=pure false) :
  Ex hq k env (.Assign [.Attribute o (Str.ofString f) p] e pos) (m1.b λv=>m2.b λo=>(bT f v o).b λ_=> .p .next) :=
 λA ι q s ha R=>(aP.b (T':=λv Q E s₁=>wpAny G.M A (eval o env) (λov s₂=>wpAny G.M A (setAttr ov (Str.ofString f) v) (λ_=>Q .next) E s₂) E s₁) (h1 A ι q s ha R) λa q' ι' b s' _ P hv =>
  aP.b (T':=λov Q E s₁=>wpAny G.M A (setAttr ov (Str.ofString f) b) (λ_=>Q Flow.next) E s₁) (h2 A ι' q' s' ha P.rel) λa2 q2 ι2 b2 s2 _ P2 hv2 =>
  aP.b (T':=λ_ Q E s₁=>Q Flow.next s₁) (BP C hf P2.rel hv2 (P2.vrel P.rel hv)) λa3 q3 ι3 b3 s3 _ P3 _=>aP.ret0 P3.rel yo λQ E hQ=>hQ).imp λQ E x=>plainObj_wpAny_Assign_Attribute x hs
end
section
variable {hq:Bool} {k:Nat} {env:Env} {A:Around} {ι:List Addr} {q:S} {s:Shared} {H:Hp} {h:Heap}
theorem yF:∀ {vs:List Value} {ns:List Int},IntsAre vs ns-> ∀ {i:Nat} {n:Int},ns[i]? = some n-> ∃t,vs[i]? = some (.int n t)
 | [],[],_,i,n,e=>by simp at e
 | [],_::_,x,_,_,_=>by cases x
 | _::_,[],x,_,_,_=>by cases x
 | v::vs,n0::ns,x,i,n,e=>by
  haveI hx:(∃t,v= .int n0 t)/\IntsAre vs ns:=by
   cases x with
   | cons a b=>exact ⟨⟨_,rfl⟩,by assumption⟩
  obtain ⟨⟨t,rfl⟩,hx⟩:=hx
  cases i with
  | zero=>simp at e;subst e;exact ⟨t,rfl⟩
  | succ i=>simpa using yF hx (by simpa using e)
theorem oJ:∀ {vs:List Value} {ns:List Int},IntsAre vs ns->aM ι h (ns.map .int) vs
 | [],[],_=>xO
 | [],_::_,x=>by cases x
 | _::_,[],x=>by cases x
 | v::vs,n0::ns,x=>by
  haveI hx:(∃t,v= .int n0 t)/\IntsAre vs ns:=by
   cases x with
   | cons a b=>exact ⟨⟨_,rfl⟩,by assumption⟩
  obtain ⟨⟨t,rfl⟩,hx⟩:=hx
  exact og (zt _ _) (oJ hx)
noncomputable def aW (o i:V):Cm V:=λq=>match o,i with
 | .ref r,.int k=>(match q.H[r]? with
  | some (.list xs)=>if 0<=k/\k<1000000 then (match xs[k.toNat]? with | some v=> .ok v q | none=> .stuck) else .stuck
  | some (.dict es)=>(match es.lookup k with | some v=> .ok v q | none=> .stuck)
  | _=> .stuck)
 | .tup xs,.int k=>if 0<=k/\k<1000000 then (match xs[k.toNat]? with | some v=> .ok v q | none=> .stuck) else .stuck
 | .scr,.int k=>if 0<=k/\k<1000000 then (match sn[k.toNat]? with | some n=> .ok (.int n) q | none=> .stuck) else .stuck
 | _,_=> .stuck
noncomputable def Jv {α:Type} (q:S) (P:α->Prop):sM S α->Prop
 | .ok v q'=>q'=q/\P v
 | .exc _ _=>False
 | .stuck=>True
theorem aP.ro {r:sM S V} {T:PT Value} (R:cC A env ι q s) (h:Jv q (λv=> ∀Q E,(∀cv tk,aL ι s.heap v cv->Q cv { s with toks:=tk })->T Q E s) r):aP A env ι s r (aL) T:=by
 cases r with
 | ok v q'=>obtain ⟨rfl,h⟩:=h;exact λQ E x=>h Q E λcv tk hr=>x ι cv _ (aR.toks R tk) hr
 | exc _ _=>exact h.elim
 | stuck=>trivial
theorem Fo (C:bF G) {value slice:Expr} (hs:∀o i,subscripted slice false o i=operate [o,i] (getItem o i)) {o i:V} {co ci:Value} (st:er ι q.H s.heap) (h1:aL ι s.heap o co) (h2:aL ι s.heap i ci) :
  Jv q (λv=> ∀Q E,(∀cv tk,aL ι s.heap v cv->Q cv { s with toks:=tk })->wpAny G.M A (subscriptTail value slice co ci) Q E s) (aW o i q):=by
 cases o with
 | ref r =>
  cases i with
  | int k =>
   refine bS λY9 y9=> ?_
   obtain ⟨a,ha,rfl⟩:=h1
   obtain ⟨t,rfl⟩:=h2
   refine y9 ?_
   unfold aW;dsimp only
   cases e:q.H[r]? with
   | none=>trivial
   | some o =>
    cases o with
    | list xs =>
     dsimp only
     split
     ·rename_i hk
      cases hv:xs[k.toNat]? with
      | some v =>
       refine bS λY9 y9=> ?_
       obtain ⟨a1,n1,vs,g1,g2,g3⟩:=st.list e
       refine y9 ?_
       obtain rfl:a=a1:=Option.some.inj (ha.symm.trans g1)
       obtain ⟨cv,hcv,hr⟩:=g3.get hv
       have hl:=g2.isList
       refine ⟨rfl,λQ E hQ=> ?_⟩;haveI hQ:=hQ cv s.toks hr;exact tail_any hl.typeIs slot_list_getitem.lookup (wpAny_getItem_list hl hk.1 (HZ (cI 0xf42400a090f4240a0911 hk.2)) (by simpa using hcv) hQ) (hs _ _)
      | none=>trivial
     ·trivial
    | dict es =>
     dsimp only
     cases hv:es.lookup k with
     | some v =>
      refine bS λY9 y9=> ?_
      obtain ⟨a1,kvs,g1,g2,g3⟩:=st.dict e
      refine y9 ?_
      obtain rfl:a=a1:=Option.some.inj (ha.symm.trans g1)
      haveI hg:=hU g3 k
      rw [hv] at hg
      obtain ⟨cv,hcv,hr⟩:=hg
      refine ⟨rfl,λQ E hQ=> ?_⟩;exact tail_any g2.mapOf.typeIs slot_dict_getitem.lookup (wpAny_getItem_of (intKind_is G.prog G.w k t) g2.mapOf hcv (hQ cv _ hr)) (hs _ _)
     | none=>trivial
    | _=>trivial
  | _=>trivial
 | tup xs =>
  cases i with
  | int k =>
   refine bS λY9 y9=> ?_
   obtain ⟨a,vs,rfl,ht,hv⟩:=h1
   obtain ⟨t,rfl⟩:=h2
   refine y9 ?_
   unfold aW;dsimp only
   split
   ·rename_i hk
    cases hx:xs[k.toNat]? with
    | some v =>
     obtain ⟨cv,hcv,hr⟩:=hv.get hx
     haveI hlen:=(aab.mp hcv).1
     haveI hj:seqIndex? k vs.toArray.size=some k.toNat:=by
      unfold seqIndex?
      rw [aa1]
      have:¬(k<0):=cI 0x90d009811 hk.1
      simp only [this,if_false]
      have h2:0<=k/\k<(vs.length:Int):=⟨hk.1,kK 0x1f090f08110112 hlen (aaH _)⟩
      simp only [h2,and_self,if_true,decide_true,Bool.and_true,Bool.and_self]
     refine ⟨rfl,λQ E hQ=> ?_⟩;haveI hQ:=hQ cv s.toks hr;exact tail_any ht.typeIs slot_tuple_getitem.lookup (getItem_tuple ht (JC (hk.1)) (HZ (cI 0xf42400a090f4240a0911 hk.2)) hj (by simpa using hcv) hQ) (hs _ _)
    | none=>trivial
   ·trivial
  | _=>trivial
 | scr =>
  cases i with
  | int k =>
   rw [show co= .ref G.sa from h1]
   obtain ⟨t,rfl⟩:=h2
   unfold aW;dsimp only
   split
   ·rename_i hk
    cases hn:sn[k.toNat]? with
    | some n =>
     obtain ⟨t',ht'⟩:=yF C.isInts hn
     have hl:s.heap.IsList G.sa G.sv.toArray:=C.scr.at λo e=>st.keep _ _ e
     refine ⟨rfl,λQ E hQ=> ?_⟩;haveI hQ:=hQ _ s.toks (zt n t');exact tail_any hl.typeIs slot_list_getitem.lookup (wpAny_getItem_list hl hk.1 (HZ (cI 0xf42400a090f4240a0911 hk.2)) (by simpa using ht') hQ) (hs _ _)
    | none=>trivial
   ·trivial
  | _=>trivial
 | _=>trivial
theorem GR (C:bF G) {value slice:Expr} (hs:∀o i,subscripted slice false o i=operate [o,i] (getItem o i)) {o i:V} {co ci:Value} (R:cC A env ι q s) (h1:aL ι s.heap o co) (h2:aL ι s.heap i ci) :
  aP A env ι s (aW o i q) (aL) (mh A (subscriptTail value slice co ci)):= .ro R (Fo C hs R.st h1 h2)
theorem aT (C:bF G) {e i:Expr} {pos:Pos} {m1 m2:Cm V} (h1:Ev hq k env e m1) (h2:Ev hq k env i m2) (hs:∀o v,subscripted i false o v=operate [o,v] (getItem o v):=by exact λ_ _=>rfl) :
  Ev hq k env (.Subscript e i pos) (m1.b λo=>m2.b λv=>aW o v) :=
 λA ι q s ha R=>(aP.b (h1 A ι q s ha R) λa q' ι' b s' _ P hv=>aP.b (T':=λv Q E s₁=>wpAny G.M A (subscriptTail e i b v) Q E s₁) (h2 A ι' q' s' ha P.rel) λa2 q2 ι2 b2 s2 _ P2 hv2 =>
  GR C hs P2.rel (P2.vrel P.rel hv) hv2).imp λQ E x=>Subscript_ x
noncomputable def tz (k:Int) (v:V) (es:List (Int×V)):List (Int×V):=if (es.lookup k).isSome then es.map (λe=>if e.1=k then (e.1,v) else e) else es++[(k,v)]
noncomputable def bL (o i v:V):Cm Unit:=λq=>match o,i with
 | .ref r,.int k=>(match q.H[r]? with
  | some (.list xs)=>if 0<=k/\k<1000000/\k<xs.length then .ok () { q with H:=q.H.set r (.list (xs.set k.toNat v)) } else .stuck
  | some (.dict es)=>if es.length<1000000 then .ok () { q with H:=q.H.set r (.dict (tz k v es)) } else .stuck
  | _=> .stuck)
 | _,_=> .stuck
theorem tw:∀ {es:List (Int×V)} {kvs:List (Int×Value)},jJ ι h es kvs->kvs.length=es.length
 | [],_,x=>by rw [show _=[] from x];rfl
 | _::_,_,z2=>by obtain ⟨_,_,q,_,b⟩:=z2;subst q;simp [tw b]
theorem tx {k:Int} {v:V} {cv:Value} (hv:aL ι h v cv):∀ {es:List (Int×V)} {kvs:List (Int×Value)},jJ ι h es kvs->jJ ι h (es.map (λe=>if e.1=k then (e.1,v) else e)) (kvs.map (λkv=>if kv.1=k then (kv.1,cv) else kv))
 | [],_,x=>by rw [show _=[] from x];rfl
 | (k',w)::es,_,z2=>by
  refine bS λY9 y9=> ?_
  obtain ⟨cw,kvs',q,a,b⟩:=z2
  refine y9 ?_
  subst q
  rw [aas,aas]
  dsimp only
  by_cases e:k'=k
  ·simp only [e,if_true];exact ⟨cv,_,rfl,hv,tx hv b⟩
  ·simp only [e,if_false];exact ⟨cw,_,rfl,a,tx hv b⟩
theorem rj:∀ {es:List (Int×V)} {kvs:List (Int×Value)},jJ ι h es kvs-> ∀ {es':List (Int×V)} {kvs':List (Int×Value)},jJ ι h es' kvs'->jJ ι h (es++es') (kvs++kvs')
 | [],_,x,_,_,y=>by rw [show _=[] from x];exact y
 | _::_,_,z2,_,_,y=>by obtain ⟨cv,kvs',q,a,b⟩:=z2;subst q;exact ⟨cv,_,rfl,a,rj b y⟩
theorem yi {k:Int}:∀ {es:List (Int×V)} {kvs:List (Int×Value)},jJ ι h es kvs->kvs.any (λkv=>kv.1=k)=(es.lookup k).isSome
 | [],_,x=>by rw [show _=[] from x];rfl
 | (k',w)::es,_,z2=>by
  obtain ⟨cw,kvs',q,a,b⟩:=z2
  subst q
  rw [List.any_cons,List.lookup_cons,yi b]
  dsimp only
  by_cases e:k=k'
  ·subst e;simp
  ·haveI e':(k==k')=false:=by simpa using e
   haveI e2:¬(k'=k):=λx=>e x.symm
   rw [e'];simp [e2]
theorem Dj {k:Int} {v:V} {cv:Value} (hv:aL ι h v cv) {es:List (Int×V)} {kvs:List (Int×Value)} (x:jJ ι h es kvs):jJ ι h (tz k v es) (stored kvs k cv):=by
 unfold tz stored
 rw [yi x]
 split
 ·exact tx hv x
 ·exact rj x ⟨cv,[],rfl,hv,rfl⟩
theorem BQ (C:bF G) {o i v:V} {co ci cv:Value} (R:cC A env ι q s) (h1:aL ι s.heap o co) (h2:aL ι s.heap i ci) (h3:aL ι s.heap v cv) :
  aP A env ι s (bL o i v q) (λ_ _ _ _=>True) (mh A (setItem co ci cv)):=by
 cases o with
 | ref r =>
  cases i with
  | int k =>
   refine bS λY9 y9=> ?_
   obtain ⟨a,ha,rfl⟩:=h1
   obtain ⟨t,rfl⟩:=h2
   refine y9 ?_
   unfold bL;dsimp only
   cases e:q.H[r]? with
   | none=>trivial
   | some o =>
    cases o with
    | list xs =>
     dsimp only
     split
     ·rename_i hk
      refine bS λY9 y9=> ?_
      obtain ⟨a1,n1,vs,g1,g2,g3⟩:=R.st.list e
      refine y9 ?_
      obtain rfl:a=a1:=Option.some.inj (ha.symm.trans g1)
      haveI hlen:=g3.length
      intro Q E hQ
      refine setItem_plain g2 hk.1 (HZ (cI 0xf42400a090f4240a0911 hk.2.1)) (by rw [aa1,hlen];exact hk.2.2) λh' e1 e2=> ?_
      refine hQ ι () _ (aR.set (tk:=s.toks) R g1 e2 λim=>⟨vs.set k.toNat cv,?_,(g3.mono (aaj _) im).set _ (h3.mono (aaj _) im)⟩) trivial
      simpa using e1
     ·trivial
    | dict es =>
     dsimp only
     split
     ·rename_i hk
      refine bS λY9 y9=> ?_
      obtain ⟨a1,kvs,g1,g2,g3⟩:=R.st.dict e
      refine y9 ?_
      obtain rfl:a=a1:=Option.some.inj (ha.symm.trans g1)
      intro Q E hQ
      refine wpAny_setItem_pairs (intKind_is G.prog G.w k t) g2 (λh' e1 e2=> ?_) (by rw [tw g3,sizeLine_eq];exact bO 0xb000f4240a0111 hk)
      exact hQ ι () _ (aR.set R g1 e2 λim=>⟨_,e1,Dj (h3.mono (aaj _) im) (g3.mono (aaj _) im)⟩) trivial
     ·trivial
    | _=>trivial
  | _=>trivial
 | _=>trivial
where
 setItem_plain {prog:Program} {w:World} {A:Around} {E:Value->Shared->Prop} {s:Shared} {l:Addr} {items:Array Value} {n:Nat} {k:Int} {t:Tok} {v:Value} {Q:Unit->Shared->Prop} (hl:IsL s.heap l items n)
   (h0:0<=k) (hfit:k<2 ^ 63) (hn:k<items.size)
   (hQ:∀h',h'.PlainList l (items.setIfInBounds k.toNat v)->Heap.SameBut l s.heap h'->Q () { s with heap:=h' }) :
   wpAny (model prog w) A (setItem (.ref l) (.int k t) v) Q E s :=
  ki_setAt hl h0 hfit hn (hQ _ ⟨_,hl.update _⟩ (Heap.SameBut.update ..))
theorem dr (C:bF G) {o i e:Expr} {p pos:Pos} {m1 m2 m3:Cm V} (h1:Ev hq k env e m1) (h2:Ev hq k env o m2) (h3:Ev hq k env i m3)
  (hs:swapsWith e (some (.Subscript o i p)) pos.line env=pure false) :
  Ex hq k env (.Assign [.Subscript o i p] e pos) (m1.b λv=>m2.b λo=>m3.b λi=>(bL o i v).b λ_=> .p .next) :=
 λA ι q s ha R=>(aP.b (T':=λv Q E s₁=>wpAny G.M A (eval o env) (λov s₂=>wpAny G.M A (eval i env) (λiv s₃=>wpAny G.M A (setItem ov iv v) (λ_=>Q Flow.next) E s₃) E s₂) E s₁) (h1 A ι q s ha R) λa q' ι' b s' _ P hv =>
  aP.b (T':=λov Q E s₁=>wpAny G.M A (eval i env) (λiv s₃=>wpAny G.M A (setItem ov iv b) (λ_=>Q Flow.next) E s₃) E s₁) (h2 A ι' q' s' ha P.rel) λa2 q2 ι2 b2 s2 _ P2 hv2 =>
  aP.b (T':=λiv Q E s₁=>wpAny G.M A (setItem b2 iv b) (λ_=>Q Flow.next) E s₁) (h3 A ι2 q2 s2 ha P2.rel) λa3 q3 ι3 b3 s3 _ P3 hv3 =>
  aP.b (T':=λ_ Q E s₁=>Q Flow.next s₁) (BQ C P3.rel (P3.vrel P2.rel hv2) hv3 (P3.vrel P2.rel (P2.vrel P.rel hv))) λa4 q4 ι4 b4 s4 _ P4 _=>aP.ret0 P4.rel yo λQ E hQ=>hQ).imp λQ E x=>wpAny_Assign_Subscript x hs
abbrev AK (hq:Bool) (k:Nat) (env:Env) (es:List Expr) (m:Cm (List V)):Prop:= ∀pos,Sem.Is hq k env (λA=>mh A (spliced (backTo pos (starEach es env)))) m (aM)
theorem ai:AK hq k env [] (.p []):=λpos A ι q s ha R=>aP.ret0 R xO λQ E hQ=>wpAny_items_nil hQ
theorem ae {e:Expr} {es:List Expr} {m:Cm V} {m':Cm (List V)} (h1:Ev hq k env e m) (h2:AK hq k env es m') (he:starEach (e::es) env=(false,eval e env)::starEach es env:=by kernel_rfl) :
  AK hq k env (e::es) (m.b λv=>m'.b λvs=> .p (v::vs)) :=
 λpos A ι q s ha R=>(aP.b (T':=λv Q E s₁=>wpAny G.M A (spliced (backTo pos (starEach es env))) (λvs s₂=>Q (v::vs) s₂) E s₁) (h1 A ι q s ha R) λa q' ι' b s' _ P hv =>
  aP.b (T':=λvs Q E s₁=>Q (b::vs) s₁) (h2 pos A ι' q' s' ha P.rel) λa2 q2 ι2 b2 s2 _ P2 hv2=>aP.ret0 P2.rel (og (P2.vrel P.rel hv) hv2) λQ E hQ=>hQ).imp λQ E x=>wpAny_items_cons x he
noncomputable def fN (vs:List V):Cm V:=λq=>if vs.length<=1000000 then .ok (.ref q.H.length) { q with H:=q.H++[.list vs] } else .stuck
theorem fo {es:List Expr} {pos:Pos} {m:Cm (List V)} (h1:AK hq k env es m):Ev hq k env (.List es pos) (m.b λvs=>fN vs) :=
 λA ι q s ha R=>(aP.b (T':=λvs Q E s₁=>vs.length<=sizeLine/\Q (Value.ref s₁.heap.objs.size) { s₁ with heap:=s₁.heap.push { cls:= .type "list",data:= .seq vs.toArray } }) (h1 pos A ι q s ha R) λa q' ι' b s' _ P hv=>by
  unfold fN
  split
  ·rename_i hl
   refine aP.newList (β:=Value) (tk:=s'.toks) P.rel hv λQ E hQ=>⟨?_,hQ⟩
   rw [hv.length,sizeLine_eq];exact bO 0xb000f4240a0011 hl
  ·trivial).imp λQ E x=>wpAny_List x
theorem EC {xs:List V} {vs:List Value} (R:cC A env ι q s) (hx:aM ι s.heap xs vs):aL ι (s.heap.push { cls:= .type "tuple",data:= .seq vs.toArray }) (.tup xs) (.ref s.heap.objs.size) :=
 ⟨_,vs,rfl,⟨_,aaM _ rfl,rfl,0,rfl⟩,hx.mono (aaj _) (.of_stays (iM _ _))⟩
noncomputable def sk (vs:List V):Cm V:=if vs.length<=1000000 then .p (.tup vs) else .stk
noncomputable def u9:Cm V:=λq=> .ok (.ref q.H.length) { q with H:=q.H++[.dict []] }
theorem nh {es:List Expr} {kk:Nat} {pos:Pos} {m:Cm (List V)} (h1:AK hq k env es m):Ev hq k env (.Tuple es kk pos) (m.b λvs=>sk vs) :=
 λA ι q s ha R=>(aP.b (T':=λvs Q E s₁=>vs.length<=sizeLine/\Q (Value.ref s₁.heap.objs.size) { s₁ with heap:=s₁.heap.push { cls:= .type "tuple",data:= .seq vs.toArray } }) (h1 pos A ι q s ha R) λa q' ι' b s' _ P hv=>by
  unfold sk
  split
  ·rename_i hl
   refine aP.grew (tk:=s'.toks) P.rel (iM _ _) (EC P.rel hv) λQ E hQ=>⟨?_,hQ⟩
   rw [hv.length,sizeLine_eq];exact bO 0xb000f4240a0011 hl
  ·trivial).imp λQ E x=>wpAny_Tuple x
theorem sK {pos:Pos}:Ev hq k env (.Dict [] [] pos) u9:=λA ι q s ha R =>
 aP.alloc (tk:=s.toks) (h':=s.heap.push { cls:= .type "dict",data:= .dict #[] }) R (iM _ _) (aaO (aaL _))
  ⟨[],⟨_,#[],0,aaM _ rfl,⟨rfl,rfl,rfl⟩,rfl,λ_ he=>by simp at he,Pairs.nil,List.nodup_nil⟩,rfl⟩ (ja R.st _) λQ E hQ=>by
  show wpAny _ _ (do standAt pos;dictDisplay []) Q E s
  refine wpAny_bind (wpAny_standAt ?_)
  show wpAny _ _ newDict Q E s
  exact wpAny_newObj_type hQ
noncomputable def ax (o:V) (H:Hp):Option (List V):=match o with
 | .ref i=>(match H[i]? with | some (.list xs)=>some xs | _=>none)
 | .scr=>some (sn.map .int)
 | _=>none
noncomputable def zo (o u:V):Cm V:=λq=>match ax o q.H,u with
 | some xs,.int b=>if 0<=b/\xs.length<=1000000 then .ok (.ref q.H.length) { q with H:=q.H++[.list (xs.take b.toNat)] } else .stuck
 | _,_=> .stuck
theorem gy (C:bF G) {o:V} {co:Value} {xs:List V} (R:er ι H h) (r:aL ι h o co) (e:ax o H=some xs):∃a vs,A3 (co= .ref a) (h.IsList a (List.toArray vs)) (aM ι h xs vs):=by
 refine wj λX' kX=> ?_
 cases o with
 | ref i =>
  unfold ax at e;dsimp only at e
  cases hx:H[i]? with
  | none=>rw [hx] at e;cases e
  | some o =>
   rw [hx] at e
   cases o with
   | list ys =>
    cases e
    obtain ⟨a,ha,rfl⟩:=r
    obtain ⟨a1,n1,vs,g1,g2,g3⟩:=R.list hx
    obtain rfl:a=a1:=Option.some.inj (ha.symm.trans g1)
    exact kX ⟨a,vs,rfl,g2.isList,g3⟩
   | _=>cases e
 | scr =>
  cases e
  obtain rfl:co= .ref G.sa:=r
  exact kX ⟨_,_,rfl,C.scr.at λo e=>R.keep _ _ e,oJ C.isInts⟩
 | _=>cases e
theorem tJ {o:V} {co:Value} {xs:List V} {ι':List Addr} {h':Heap} (e:ax o H=some xs) (r:aL ι h o co) (p:ι<+:ι'):aL ι' h' o co:=by
 cases o with
 | ref i=>obtain ⟨a,e1,e2⟩:=r;exact ⟨a,getElem?_prefix p e1,e2⟩
 | scr=>exact r
 | _=>cases e
theorem Ah {o:V} {xs:List V} (e:ax o H=some xs):(∃i,o= .ref i)\/o= .scr:=by
 cases o with
 | ref i=>exact .inl ⟨_,rfl⟩
 | scr=>exact .inr rfl
 | _=>cases e
theorem Cv {value:Expr} {lower upper:Option Expr} {p:Pos} {l:Addr} {vs:List Value} {vl vu:Value} {lo hi:Option Int} {A:Around} {E:Value->Shared->Prop} {s:Shared} {Q:Value->Shared->Prop} {prog:Program} {w:World}
  (hl:s.heap.IsList l vs.toArray) (pl:IsPart vl lo) (pu:IsPart vu hi) (hsz:vs.length<=sizeLine)
  (h:Q (.ref (s.heap.objs.size+1)) { s with heap:=(s.heap.push { cls:= .type "slice",data:= .fields #[vl,vu,.none] }).push { cls:= .type "list",data:= .seq (slicePick vs.toArray lo hi none) } }) :
  wpAny (model prog w) A (subscriptTail value (.Slice lower upper none p) (.ref l) (.ref s.heap.objs.size)) Q E { s with heap:=s.heap.push { cls:= .type "slice",data:= .fields #[vl,vu,.none] } }:=by
 have hl':=hl.push { cls:= .type "slice",data:= .fields #[vl,vu,.none] }
 refine tail_any (ops:=[.ref s.heap.objs.size,.ref l]) (Heap.IsList.typeIs (s:={ s with heap:=s.heap.push { cls:= .type "slice",data:= .fields #[vl,vu,.none] } }) hl') slot_list_getitem.lookup ?_ rfl
 refine wpAny_getItem_list_slice hl' (Heap.IsSliceOf.new ..) pl pu .none (by simp) ?_ (by simpa using hsz)
 rw [Heap.size_push]
 exact h
theorem GJ (C:bF G) {e u:Expr} {p pos:Pos} {m1 m2:Cm V} (h1:Ev hq k env e m1) (h2:Ev hq k env u m2) :
  Ev hq k env (.Subscript e (.Slice none (some u) none p) pos) (m1.b λo=>m2.b λv=>zo o v):=by
 intro A ι q s ha R
 refine (aP.b (h1 A ι q s ha R) λa q' ι' b s' _ P hv=>aP.b (T':=λv Q E s₁=>wpAny G.M A (subscriptTail e (.Slice none (some u) none p) b (.ref s₁.heap.objs.size)) Q E { s₁ with heap:=s₁.heap.push { cls:= .type "slice",data:= .fields #[.none,v,.none] } })
  (h2 A ι' q' s' ha P.rel) λa2 q2 ι2 b2 s2 _ P2 hv2=> ?_).imp λQ E x=>Subscript_ (wpAny_mono x (λo s₁ y=>wpAny_Slice (wpAny_pure (wpAny_mono y (λv s₂ z=>wpAny_pure z) λ_ _ z=>z))) λ_ _ y=>y)
 unfold zo
 cases e1:ax a q2.H with
 | none=>trivial
 | some xs =>
 cases a2 with
 | int n =>
  dsimp only
  split
  ·rename_i hn
   refine bS λY9 y9=> ?_
   obtain ⟨t,rfl⟩:=hv2
   obtain ⟨l,vs,rfl,g1,g2⟩:=gy C P2.rel.st (P2.vrel P.rel hv) e1
   refine y9 ?_
   refine aP.alloc (tk:=s2.toks) P2.rel (a:=s2.heap.objs.size+1) (h':=(s2.heap.push { cls:= .type "slice",data:= .fields #[.none,.int n t,.none] }).push { cls:= .type "list",data:= .seq (vs.take n.toNat).toArray }) (λb o e=>aal _ (aal _ e)) (aaO (Nat.le_succ _)) ⟨vs.take n.toNat,⟨0,?_⟩,?_⟩ (ja P2.rel.st _) λQ E hQ=> ?_
   ·haveI:=aaM (s2.heap.push { cls:= .type "slice",data:= .fields #[.none,.int n t,.none] }) (o:={ cls:= .type "list",data:= .seq (vs.take n.toNat).toArray }) rfl
    rwa [Heap.size_push] at this
   ·exact (g2.take n.toNat).mono (aaz _ _) (.of_stays λb o e=>aal _ (aal _ e))
   ·refine Cv g1 .none (.int n t) (by rw [g2.length,sizeLine_eq];exact bO 0xb000f4240a0011 hn.2) ?_
    haveI:=slicePick_upto' vs.toArray n.toNat
    rw [aai hn.1] at this
    rw [this]
    exact hQ
  ·trivial
 | _=>trivial
end
structure s6 (A:Around) (ι:List Addr) (s:Shared) (ι':List Addr) (H':Hp) (s':Shared):Prop where
 pre:ι<+:ι'
 st:er ι' H' s'.heap
 fs:nz (A.frames.getD []) ι' s'.heap
 kp:Kp ι (kx A) s.heap s'.heap
 new:∀a∈ι',a∈ι\/s.heap.get? a=none
 gens:s'.gens = #[]
 os:s'.os=G.os
inductive I8 (fs:List Env) (fa:List Addr) (ι:List Addr) (h:Heap) (c:String) (ι':List Addr) (H':Hp) (h':Heap) (ev:Value) (e C:Addr) (B:Heap):Prop
 | mk (z0:ev= .ref e) (z1:G.xcl c=some C) (z2:xT B fs e (.ref C) .none h') (z3:er ι' H' B) (z4:nz fs ι' h') (z5:∀a o,h.get? a=some o->a∉ι->a∉fa->B.get? a=some o)
structure oi (A:Around) (ι:List Addr) (s:Shared) (c:String) (ι':List Addr) (H':Hp) (s':Shared) (ev:Value):Prop where
 pre:ι<+:ι'
 ex:∃e C B,I8 (A.frames.getD []) (kx A) ι s.heap c ι' H' s'.heap ev e C B
 size:zL s.heap s'.heap
 up:∀a o,s.heap.get? a=some o->a∉ι-> ∃sl,s'.heap.get? a=some { o with slots:=sl }
 new:∀a∈ι',a∈ι\/s.heap.get? a=none
 gens:s'.gens = #[]
 os:s'.os=G.os
def b7 (hq:Bool) (k:Nat) (f:Addr) (F:Fc):Prop :=
 ∀A ι H s vs cvs,ROk hq k A->(∃fs,A.frames=some fs)->er ι H s.heap->nz (A.frames.getD []) ι s.heap->s.gens = #[]->s.os=G.os->rX A s.heap->aM ι s.heap vs cvs ->
  match F vs H with
  | .ok v H'=> ∀R:Result->Shared->Prop,(∀ι' cv s',s6 A ι s ι' H' s'->aL ι' s'.heap v cv->R (.ok (.ret cv)) s')->codeAny G.M A (.call (.ref f) ⟨cvs,[]⟩) R s
  | .exc c H'=> ∀R:Result->Shared->Prop,(∀ι' ev s',oi A ι s c ι' H' s' ev->R (.error ev) s')->codeAny G.M A (.call (.ref f) ⟨cvs,[]⟩) R s
  | .stuck=>True
section
variable {hq:Bool} {k:Nat} {env:Env} {A:Around} {ι ι':List Addr} {q:S} {s s':Shared} {H H':Hp} {h:Heap}
theorem ROk.mono {k':Nat} (x:ROk hq k A) (hk:k'<=k):ROk hq k' A:=⟨x.hd,by haveI:=x.depth;exact lZ 0x320a003d2c0000320a103d2c0110032 hk this,aam (Nat.add_le_add_left (Nat.mul_le_mul_left 50 hk) _) x.units⟩
theorem dI (R:nz (A.frames.getD []) ι h) {a:Addr} (ha:a∈kx A):∃o,h.get? a=some o/\ ∃es n,o.data= .dict es n:=by
 refine bS λY9 y9=> ?_
 obtain ⟨e,he,hf⟩:=List.mem_filterMap.mp ha
 obtain ⟨_,L,o,h1,h2,h3,_⟩:=R e he
 refine y9 ?_
 obtain rfl:L=a:=Option.some.inj (h1.symm.trans hf)
 exact ⟨o,h2,h3⟩
theorem jK.after (R:cC A env ι q s) {hv hl:Heap} (pre:ι<+:ι') (new:∀a∈ι',a∈ι\/s.heap.get? a=none)
  (up:∀a o,s.heap.get? a=some o->a∉ι-> ∃sl,hl.get? a=some { o with slots:=sl })
  (ex:∀a o,s.heap.get? a=some o->a∉ι->a∉kx A->hv.get? a=some o):jK env q.l ι' hv hl:=by
 have im:nE s.heap hv:=λa o e hm=>⟨o.slots,ex a o e (λhi=>by
   obtain ⟨o',e',hm'⟩:=R.st.mut hi
   rw [e] at e';cases e';exact hm hm') λhf=>by
   obtain ⟨o',e',es,n,hd⟩:=dI R.fs hf
   rw [e] at e';cases e';exact hm (.inr (.inl ⟨es,n,hd⟩))⟩
 have cellEx:∀c o v,s.heap.get? c=some o->o.data= .cell v->c∈own env->hv.get? c=some o:=λc o v e hd ho=>ex c o e (R.fr.dis c ho) λhf=>by
   obtain ⟨o',e',es,n,hd'⟩:=dI R.fs hf
   rw [e] at e';cases e';rw [hd] at hd';cases hd'
 refine ⟨R.fr.kind,R.fr.glob,R.fr.blt,?_,?_,?_,R.fr.ndup,?_,R.fr.fresh⟩
 ·obtain ⟨m,⟨o,es,ep,ho,hd,r⟩,hm⟩:=R.fr.loc
  obtain ⟨sl,hs⟩:=up env.locals o ho (R.fr.dis _ (.head _))
  exact ⟨m,⟨_,es,ep,hs,hd,r⟩,λy v e e2=>let ⟨cv,a,b⟩:=hm y v e e2;⟨cv,a,b.mono pre im⟩⟩
 ·intro y v e e2
  obtain ⟨c,o,cv,h1,h2,h3,h4⟩:=R.fr.cel y v e e2
  exact ⟨c,o,cv,h1,cellEx c o _ h2 h3 (List.mem_cons_of_mem _ (aae.mpr ⟨_,bn h1,rfl⟩)),h3,h4.mono pre im⟩
 ·intro p hp
  obtain ⟨o,ov,h1,h2⟩:=R.fr.cells p hp
  exact ⟨o,ov,cellEx p.2 o _ h1 h2 (List.mem_cons_of_mem _ (aae.mpr ⟨p,hp,rfl⟩)),h2⟩
 ·intro a ha hi
  rcases new a hi with h1 | h1
  ·exact R.fr.dis a ha h1
  ·obtain ⟨o,e,_⟩:=R.fr.mut (λ_ _ e=>e) ha
   rw [h1] at e;cases e
theorem aR.ofC (R:cC A env ι q s) (c:s6 A ι s ι' H' s'):aR A env ι s ι' ⟨q.l,H'⟩ s' where
 pre:=c.pre
 rel:=⟨c.st,jK.after R c.pre c.new c.kp.up c.kp.ex,c.fs,c.gens,c.os,R.hn.imm (R.imm' λa o e hW=>c.kp.up a o e λh=>hW (aat _ h))⟩
 kp:=⟨c.kp.size,λa o e hW=>c.kp.up a o e λh=>hW (aat _ h),λa o e hW hf=>c.kp.ex a o e (λh=>hW (aat _ h)) hf⟩
 new:=c.new
theorem dp.ofC {c:String} {ev:Value} (ha:lv hq k A env) (R:cC A env ι q s) (x:oi A ι s c ι' H' s' ev):dp A env ι s c ι' ⟨q.l,H'⟩ s' ev where
 pre:=x.pre
 ex:=by
  refine bS λY9 y9=> ?_
  obtain ⟨e,C,B,h1,h2,h3,h4,h5,h6⟩:=x.ex
  obtain ⟨fenv,rest,f1,f2,_⟩:=ha.fr
  haveI hm:fenv∈A.frames.getD []:=by rw [f1];exact .head _
  obtain ⟨_,L,o,g1,_⟩:=R.fs fenv hm
  refine y9 ?_
  exact ⟨e,C,B,L,h1,h2,by rw [<- f2];exact g1,.fly _ h3 (.inl rfl),h4,jK.after R x.pre x.new x.up h6,h5,λa o e' hW hf=>h6 a o e' (λh=>hW (aat _ h)) hf⟩
 size:=x.size
 up:=λa o e hW=>x.up a o e λh=>hW (aat _ h)
 new:=x.new
 gens:=x.gens
 os:=x.os
noncomputable def bA (F:Fc) (vs:List V):Cm V:=λq=>match F vs q.H with
 | .ok v H'=> .ok v ⟨q.l,H'⟩
 | .exc c H'=> .exc c ⟨q.l,H'⟩
 | .stuck=> .stuck
abbrev zx (Q:Value->Shared->Prop) (E:Value->Shared->Prop):Result->Shared->Prop:=λr s'=>match r with | .ok (.ret v)=>Q v s' | .ok _=>False | .error e=>E e s'
theorem CT {f:Addr} {F:Fc} {k0:Nat} (hF:b7 hq k0 f F) (hk:k0<=k) (ha:lv hq k A env) (R:cC A env ι q s) {vs:List V} {cvs:List Value} (hv:aM ι s.heap vs cvs) :
  aP A env ι s (bA F vs q) (aL) (λQ E s=>codeAny G.M A (.call (.ref f) ⟨cvs,[]⟩) (zx Q E) s):=by
 have hr:=hF A ι q.H s vs cvs (ha.toROk.mono hk) (let ⟨fenv,rest,h1,_⟩:=ha.fr;⟨_,h1⟩) R.st R.fs R.gens R.os R.hn hv
 unfold bA
 cases h:F vs q.H with
 | stuck=>trivial
 | ok v H'=>rw [h] at hr;exact λQ E hQ=>hr _ λι' cv s' c r=>hQ ι' cv s' (aR.ofC R c) r
 | exc c H'=>rw [h] at hr;exact λQ E hQ=>hr _ λι' ev s' x=>hQ ι' ev s' (dp.ofC ha R x)
theorem bZ {M:Model} {A:Around} {E:Value->Shared->Prop} {s:Shared} {f:Value} {Q:Args->Shared->Prop}:∀ {args:List (Bool×Sem Value)},args.any (·.1)=false ->
  wpAny M A (spliced args) (λvs s'=>Q ⟨vs,[]⟩ s') E s->wpAny M A (evalArgs f true args []) Q E s
 | [],_,h=>by
  unfold evalArgs
  show wpAny M A (spliced [] >>= _) Q E s
  refine wpAny_bind (wpAny_mono h (λvs s' h'=> ?_) λ_ _ x=>x)
  refine wpAny_bind (wpAny_pure ?_)
  refine wpAny_holding ?_
  exact wpAny_bind (wpAny_pure (wpAny_bind (wpAny_pure (wpAny_pure h'))))
 | (false,x)::rest,_,h=>Calls.evalArgs_plain h
 | (true,x)::rest,hp,_=>by simp at hp
theorem bG (C:bF G) {x:String} {f:Addr} {F:Fc} {k0:Nat} {es:List Expr} {p pos:Pos} {m:Cm (List V)} (hF:b7 hq k0 f F) (h1:AK hq k env es m) (hx:env.kindOf (Str.ofString x)=some .globalImplicit)
  (hv:nsIn G.K mainGlobals (Str.ofString x)=some (some (.ref f))) (hfn:fnIn G.K f=true) (hd:(Str.ofString x==("__debug__" : Str))=false) (hk:k0<=k)
  (hp:(backTo pos (starEach es env)).any (·.1)=false) :
  Ev hq k env (.Call (.Name (Str.ofString x) p) es [] pos) (m.b λvs=>bA F vs):=by
 intro A ι q s ha R
 unfold fnIn at hfn
 split at hfn
 ·rename_i oc od fd sl hl
  refine (aP.b (T':=λvs Q E s₁=>s₁.heap.get? f=some ⟨oc,od,.func fd,sl⟩/\codeAny G.M A (.call (.ref f) ⟨vs,[]⟩) (zx Q E) s₁) (h1 pos A ι q s ha R) λa q' ι' b s' _ P hv =>
   (CT hF hk ha P.rel hv).imp λQ E z=>⟨P.rel.st.keep _ _ (C.X _ _ hl),z⟩).imp λQ E y=> ?_
  show wpAny G.M A (do callWith pos (<- eval (.Name (Str.ofString x) p) env) [] (backTo pos (starEach es env)) []) Q E s
  refine wpAny_bind (jR C R hx hv hd ?_)
  exact Calls.callWith_function (bZ hp (wpAny_mono y (λvs s₁ z=>⟨⟨z.1,rfl⟩,wpAny_call z.2⟩) λ_ _ z=>z))
 ·cases hfn
end
section
variable {hq:Bool} {k:Nat} {env:Env} {A:Around} {ι ι':List Addr} {q:S} {s s':Shared} {H H':Hp} {h:Heap}
theorem rh {M:Model} {A:Around} {E:Value->Shared->Prop} {s:Shared} {o:Expr} {name:Str} {apos pos:Pos} {args:List Expr} {Q:Value->Shared->Prop}
  (hbase:attributeBase o name env (eval o env)=eval o env) (hform:methodCallForm args.length (backTo pos (starEach args env)) []=true) (hline:(apos.endLine==pos.line)=true)
  (h:wpAny M A (eval o env) (λov s₁=>wpAny M A (getMethod ov name (do return (<- importBound o env).getD true)) (λfp s₂=>wpAny M A (callWith pos fp.1 fp.2 (backTo pos (starEach args env)) []) Q E s₂) E s₁) E s) :
  wpAny M A (eval (.Call (.Attribute o name apos) args [] pos) env) Q E s:=by
 rw [arm_eval_Call,hbase]
 refine wpAny_bind (wpAny_mono h (λov s₁ h₁=>wpAny_bind (wpAny_standAt ?_)) λ_ _ e=>e)
 haveI hform':methodCallForm (args.length+([]:List Keyword).length) (backTo pos (starEach args env)) (backToKw pos (keywordEach [] env))=true:=hform
 haveI hpos:methodCallPos true o env apos pos=pure pos:=by unfold methodCallPos;simp [hline]
 unfold methodCall
 rw [hform']
 show wpAny M A (holding [ov] (getMethod ov name _) >>= _) Q E s₁
 exact wpAny_bind (wpAny_holding (wpAny_mono h₁ (λfp s₂ h₂=>wpAny_bind (wpAny_of_eq hpos h₂)) λ_ _ e=>e))
noncomputable def cc (K:Frag) (C f:Addr) (name:Str):Bool:=plainGet K C name&&(findIn K (.ref C) name==some (some (.ref f)))&&isFn K (.ref f)&&fnIn K f
noncomputable def db (c0 f:String) (v:V):Cm Unit:=λq=>match v with
 | .inst c i=>if c=c0 then (match q.H[i]? with
  | some (.flds fs)=>(match fs.lookup f with | some _=> .stuck | none=> .ok () q)
  | _=> .stuck) else .stuck
 | _=> .stuck
theorem DM {c0 f:String} {v:V} {q:S}:db c0 f v q= .stuck\/(db c0 f v q= .ok () q/\ ∃i fs,v= .inst c0 i/\q.H[i]? = some (.flds fs)/\fs.lookup f=none):=by
 cases v with
 | inst c i =>
  unfold db;dsimp only
  split
  ·rename_i hc
   subst hc
   cases e:q.H[i]? with
   | none=>exact .inl rfl
   | some o =>
   cases o with
   | flds fs =>
    dsimp only
    cases hn:fs.lookup f with
    | some _=>exact .inl rfl
    | none=>exact .inr ⟨rfl,i,fs,rfl,e,hn⟩
   | _=>exact .inl rfl
  ·exact .inl rfl
 | _=>exact .inl rfl
theorem aK (C:bF G) {c0 name:String} {C0 f:Addr} {F:Fc} {k0:Nat} {o:Expr} {es:List Expr} {apos pos:Pos} {m0:Cm V} {m:Cm (List V)} (hok:cc G.K C0 f (Str.ofString name)=true)
  (hF:b7 hq k0 f F) (h0:Ev hq k env o m0) (h1:AK hq k env es m) (hc:G.cls c0=some C0) (hk:k0<=k)
  (hbase:attributeBase o (Str.ofString name) env (eval o env)=eval o env) (hform:methodCallForm es.length (backTo pos (starEach es env)) []=true) (hline:(apos.endLine==pos.line)=true)
  (hp:(backTo pos (starEach es env)).any (·.1)=false) :
  Ev hq k env (.Call (.Attribute o (Str.ofString name) apos) es [] pos) (m0.b λv=>(db c0 name v).b λ_=>m.b λvs=>bA F (v::vs)):=by
 intro A ι q s ha R
 unfold cc at hok
 simp only [Bool.and_eq_true,beq_iff_eq] at hok
 refine bS λY9 y9=> ?_
 obtain ⟨⟨⟨k1,k2⟩,k3⟩,k4⟩:=hok
 refine y9 ?_
 unfold fnIn at k4
 split at k4
 ·rename_i oc od fd sl hl
  refine (aP.b (T':=λov Q E s₁=>wpAny G.M A (getMethod ov (Str.ofString name) (do return (<- importBound o env).getD true)) (λfp s₂=>wpAny G.M A (callWith pos fp.1 fp.2 (backTo pos (starEach es env)) []) Q E s₂) E s₁)
   (h0 A ι q s ha R) λv q' ι' b s' _ P hv=> ?_).imp λQ E y=>rh hbase hform hline y
  rcases DM (c0:=c0) (f:=name) (v:=v) (q:=q') with hst | ⟨hok,i,fs,rfl,e,hnone⟩
  ·rw [cA hst];trivial
  ·rw [fT hok]
   refine bS λY9 y9=> ?_
   obtain ⟨a,x,C',ox,es',n,g1,g2,rfl,I,g3,g4,g5⟩:=xd P.rel.st hv e
   refine y9 ?_
   haveI hgl:=pn g5 name
   rw [hnone] at hgl
   obtain rfl:C'=C0:=Option.some.inj (g2.symm.trans hc)
   refine (aP.b (T':=λvs Q E s₁=>s₁.heap.get? f=some ⟨oc,od,.func fd,sl⟩/\codeAny G.M A (.call (.ref f) ⟨.ref x::vs,[]⟩) (zx Q E) s₁) (h1 pos A ι' q' s' ha P.rel) λvs q2 ι2 b2 s2 _ P2 hv2=> ?_).imp λQ E y=> ?_
   ·exact (CT hF hk ha P2.rel (og (P2.vrel P.rel hv) hv2)).imp λQ E z=>⟨P2.rel.st.keep _ _ (C.X _ _ hl),z⟩
   ·refine method_fn (C.X.keeps P.rel.st.keep) I (plainGet_of k1).1 (plainGet_of k1).2 k2 (beq_iff_eq.mp k3) (by show (lookIn _ (dictOf es' n)).map _=_;rw [lookIn_dict,hgl];rfl) ?_
    exact Calls.callWith_function (bZ hp (wpAny_mono y (λvs s₁ z=>⟨⟨z.1,rfl⟩,wpAny_call z.2⟩) λ_ _ z=>z))
 ·cases k4
noncomputable def r9 (k:Int) (es:List (Int×V)):List (Int×V):=es.filter λe=>e.1≠k
noncomputable def fQ (o:V):Cm Bool:=λq=>match o with
 | .ref i=>(match q.H[i]? with | some (.list _)=> .ok true q | some (.dict _)=> .ok false q | _=> .stuck)
 | _=> .stuck
noncomputable def j7 (o v:V):Cm V:=λq=>match o with
 | .ref i=>(match q.H[i]? with
  | some (.list xs)=>if xs.length<1000000 then .ok .none { q with H:=q.H.set i (.list (xs++[v])) } else .stuck
  | _=> .stuck)
 | _=> .stuck
noncomputable def ly (o v:V):Cm V:=λq=>match o,v with
 | .ref i,.int k=>(match q.H[i]? with
  | some (.dict es)=>if es.length<=1000000 then (match es.lookup k with | some x=> .ok x { q with H:=q.H.set i (.dict (r9 k es)) } | none=> .stuck) else .stuck
  | _=> .stuck)
 | _,_=> .stuck
theorem yJ {o:V} {q:S}:fQ o q= .stuck\/(∃i xs,o= .ref i/\q.H[i]? = some (.list xs)/\fQ o q= .ok true q)\/(∃i es,o= .ref i/\q.H[i]? = some (.dict es)/\fQ o q= .ok false q):=by
 cases o with
 | ref i =>
  cases e:q.H[i]? with
  | none=>exact .inl (by unfold fQ;dsimp only;rw [e])
  | some o =>
  cases o with
  | list xs=>exact .inr (.inl ⟨i,xs,rfl,e,by unfold fQ;dsimp only;rw [e]⟩)
  | dict es=>exact .inr (.inr ⟨i,es,rfl,e,by unfold fQ;dsimp only;rw [e]⟩)
  | flds _=>exact .inl (by unfold fQ;dsimp only;rw [e])
 | _=>exact .inl rfl
theorem yj {k:Int}:∀ {es:List (Int×V)} {kvs:List (Int×Value)},jJ ι h es kvs->jJ ι h (r9 k es) (without kvs k)
 | [],_,x=>by rw [show _=[] from x];rfl
 | (k',w)::es,_,z2=>by
  obtain ⟨cw,kvs',q,a,b⟩:=z2
  subst q
  have ih:=yj (k:=k) b
  unfold r9 without at ih ⊢
  rw [List.filter_cons,List.filter_cons]
  dsimp only at a ⊢
  by_cases e:k'=k
  ·simp only [e,ne_eq,not_true,decide_false,Bool.false_eq_true,if_false];exact ih
  ·simp only [e,ne_eq,not_false_eq_true,decide_true,if_true];exact ⟨cw,_,rfl,a,ih⟩
theorem te (C:bF G) {o v:V} {co cv:Value} (ha:∃hq k,lv hq k A env) (R:cC A env ι q s) (h1:aL ι s.heap o co) (h2:aL ι s.heap v cv) :
  aP A env ι s (j7 o v q) (aL) (mh A (call (.builtin "list.append") [co,cv])):=by
 cases o with
 | ref i =>
  obtain ⟨a,hi,rfl⟩:=h1
  unfold j7;dsimp only
  cases e:q.H[i]? with
  | none=>trivial
  | some o =>
  cases o with
  | list xs =>
   dsimp only
   split
   ·rename_i hl
    refine bS λY9 y9=> ?_
    obtain ⟨a1,n1,vs,g1,g2,g3⟩:=R.st.list e
    refine y9 ?_
    obtain rfl:a=a1:=Option.some.inj (hi.symm.trans g1)
    refine aP.set (tk:=s.toks) R g1 (Heap.SameBut.update s.heap a (Obj.mapSeq λx=>x.push cv)) (λim=>⟨vs++[cv],?_,(g3.mono (aaj _) im).append (og (h2.mono (aaj _) im) xO)⟩) (λim=>GC) λQ E hQ=> ?_
    ·haveI:=g2.update λx=>x.push cv
     exact ⟨_,by simpa using this⟩
    ·exact call_meets F.slot_list_append ⟨_,g2,rfl⟩ F.entry_list_append (F.args_list_append_2 _ _) (list_append a vs.toArray n1 cv (by rw [aa1,g3.length,sizeLine_eq];exact bO 0xb000f4240a0111 hl)) ⟨g2,hQ⟩
   ·trivial
  | _=>trivial
 | _=>trivial
theorem tf (C:bF G) {o v:V} {co cv:Value} (ha:∃hq k,lv hq k A env) (R:cC A env ι q s) (h1:aL ι s.heap o co) (h2:aL ι s.heap v cv) :
  aP A env ι s (ly o v q) (aL) (mh A (call (.builtin "dict.pop") [co,cv])):=by
 cases o with
 | ref i =>
  cases v with
  | int k =>
   refine bS λY9 y9=> ?_
   obtain ⟨a,hi,rfl⟩:=h1
   refine y9 ?_
   unfold ly;dsimp only
   cases e:q.H[i]? with
   | none=>trivial
   | some o =>
   cases o with
   | dict es =>
    dsimp only
    split
    ·rename_i hl
     cases hx:es.lookup k with
     | none=>trivial
     | some x =>
      refine bS λY9 y9=> ?_
      obtain ⟨a1,kvs,g1,g2,g3⟩:=R.st.dict e
      obtain rfl:a=a1:=Option.some.inj (hi.symm.trans g1)
      obtain ⟨t,rfl⟩:=h2
      haveI hg:=hU g3 k
      rw [hx] at hg
      obtain ⟨cx,hcx,hrx⟩:=hg
      refine y9 ?_
      intro Q E hQ
      refine call_meetsIn F.slot_dict_pop g2.mapOf.typeIs F.entry_dict_pop (F.args_dict_pop_2 _ _) (meets_dict_pop_there (knd:=intKind G.prog G.w) a (intKind_is G.prog G.w k t) [] (.inl rfl) rfl) ⟨kvs,cx,g2,by rw [tw g3,sizeLine_eq];exact bO 0xb000f4240a0011 hl,hcx,λh' e1 e2=> ?_⟩
      have P:=aR.set (tk:=s.toks+1) (o':= .dict (r9 k es)) R g1 e2 λim=>⟨_,e1,yj (g3.mono (aaj _) im)⟩
      exact hQ ι cx _ P (hrx.mono (aaj _) (R.imm P.kp))
    ·trivial
   | _=>trivial
  | _=>trivial
 | _=>trivial
structure AJ (name:String) (kd:Bool):Prop where
 slot:Slot (if kd then "list" else "dict") (Str.ofString name) ((if kd then "list." else "dict.")++name)
 ty:typeOf (.builtin ((if kd then "list." else "dict.")++name))=pure (.type "method_descriptor")
theorem qk:AJ "append" true:=⟨F.slot_list_append,F.type_list_append⟩
theorem pe:AJ "pop" false:=⟨F.slot_dict_pop,F.type_dict_pop⟩
theorem G5 {name:String} {kd:Bool} (B:AJ name kd) {o:V} {co:Value} (R:cC A env ι q s) (h1:aL ι s.heap o co) (hk:fQ o q= .ok kd q) {pl:Sem Bool} {Q:Value×List Value->Shared->Prop} {E:Value->Shared->Prop}
  (h:Q (.builtin ((if kd then "list." else "dict.")++name),[co]) s):wpAny G.M A (getMethod co (Str.ofString name) pl) Q E s:=by
 rcases yJ (o:=o) (q:=q) with hst | ⟨i,xs,rfl,e,hk'⟩ | ⟨i,es,rfl,e,hk'⟩
 ·rw [hst] at hk;cases hk
 ·rw [hk'] at hk;cases hk
  refine bS λY9 y9=> ?_
  obtain ⟨a1,n1,vs,g1,g2,g3⟩:=R.st.list e
  obtain ⟨a,hi,rfl⟩:=h1
  refine y9 ?_
  obtain rfl:a=a1:=Option.some.inj (hi.symm.trans g1)
  exact getMethod_builtin ⟨_,g2,rfl⟩ F.plainAttrs_list B.slot B.ty (λb e=>by cases e;exact ⟨_,g2,rfl⟩) h
 ·rw [hk'] at hk;cases hk
  refine bS λY9 y9=> ?_
  obtain ⟨a1,kvs,g1,g2,g3⟩:=R.st.dict e
  obtain ⟨a,hi,rfl⟩:=h1
  refine y9 ?_
  obtain rfl:a=a1:=Option.some.inj (hi.symm.trans g1)
  exact getMethod_builtin g2.mapOf.typeIs F.plainAttrs_dict B.slot B.ty g2.mapOf.noDict h
theorem q6 (C:bF G) {name:String} (kd:Bool) {f:V->V->Cm V} (B:AJ name kd)
  (hP:∀ {A:Around} {ι:List Addr} {q:S} {s:Shared} {o v:V} {co cv:Value},(∃hq k,lv hq k A env)->cC A env ι q s->aL ι s.heap o co->aL ι s.heap v cv->aP A env ι s (f o v q) (aL) (mh A (call (.builtin ((if kd then "list." else "dict.")++name)) [co,cv])))
  {o e:Expr} {apos pos:Pos} {m0 m1:Cm V} (h0:Ev hq k env o m0) (h1:Ev hq k env e m1)
  (hbase:attributeBase o (Str.ofString name) env (eval o env)=eval o env) (hform:methodCallForm 1 (backTo pos (starEach [e] env)) []=true) (hline:(apos.endLine==pos.line)=true)
  (he:starEach [e] env=(false,eval e env)::starEach [] env) (hp:(backTo pos (starEach [e] env)).any (·.1)=false) :
  Ev hq k env (.Call (.Attribute o (Str.ofString name) apos) [e] [] pos) (m0.b λo=>(fQ o).b λkd'=>if kd'=kd then m1.b λv=>f o v else .stk):=by
 intro A ι q s ha R
 refine (aP.b (T':=λov Q E s₁=>wpAny G.M A (getMethod ov (Str.ofString name) (do return (<- importBound o env).getD true)) (λfp s₂=>wpAny G.M A (callWith pos fp.1 fp.2 (backTo pos (starEach [e] env)) []) Q E s₂) E s₁)
   (h0 A ι q s ha R) λv q' ι' b s' _ P hv=> ?_).imp λQ E y=>rh hbase hform hline y
 have gZ:fQ v q'= .ok kd q'->aP A env ι' s' ((m1.b λw=>f v w) q') (aL) (λQ E s₁=>wpAny G.M A (getMethod b (Str.ofString name) (do return (<- importBound o env).getD true)) (λfp s₂=>wpAny G.M A (callWith pos fp.1 fp.2 (backTo pos (starEach [e] env)) []) Q E s₂) E s₁):=by
  intro hk
  refine (aP.b (T':=λw Q E s₁=>wpAny G.M A (call (.builtin ((if kd then "list." else "dict.")++name)) [b,w]) Q E s₁) (h1 A ι' q' s' ha P.rel) λw q2 ι2 b2 s2 _ P2 hv2=>hP ⟨_,_,ha⟩ P2.rel (P2.vrel P.rel hv) hv2).imp λQ E y=> ?_
  refine G5 B P.rel hv hk (Calls.callWith_builtin hp (bZ hp (wpAny_items_cons (wpAny_mono y (λw s₁ z=>wpAny_items_nil z) λ_ _ z=>z) he)))
 rcases yJ (o:=v) (q:=q') with hst | ⟨i,xs,rfl,e',hk'⟩ | ⟨i,es,rfl,e',hk'⟩
 ·rw [cA hst];trivial
 ·rw [fT hk']
  by_cases hb:true=kd
  ·rw [if_pos hb];exact gZ (hb▸hk')
  ·rw [if_neg hb];trivial
 ·rw [fT hk']
  by_cases hb:false=kd
  ·rw [if_pos hb];exact gZ (hb▸hk')
  ·rw [if_neg hb];trivial
end
section
variable {hq:Bool} {k:Nat} {env:Env} {A:Around} {ι ι':List Addr} {q:S} {s s':Shared} {H H':Hp} {h:Heap}
def sJ (bv:Value):Prop:= ∀(M:Model) (A:Around) (pos:Pos) (args:List (Bool×Sem Value)) (Q:Value->Shared->Prop) (E:Value->Shared->Prop) (s:Shared),args.any (·.1)=false ->
 wpAny M A (evalArgs bv true args []) (λa s₁=>wpAny M A (call bv ([]++a.pos) a.kw) Q E s₁) E s->wpAny M A (callWith pos bv [] args []) Q E s
theorem eS (id:String):sJ (.builtin id):=λ_ _ _ _ _ _ _ hp h=>Calls.callWith_builtin hp h
theorem fB (T:String):sJ (.type T):=λ_ _ _ _ _ _ _ hp h=>callWith_excType hp h
structure HV (hq:Bool) (k:Nat) (env:Env) (bv:Value) (f:List V->Cm V):Prop where
 c:sJ bv
 f:∀A ι q s vs cvs,lv hq k A env->cC A env ι q s->aM ι s.heap vs cvs->aP A env ι s (f vs q) (aL) (mh A (call bv cvs))
theorem cD (C:bF G) {x:String} {bv:Value} {es:List Expr} {p pos:Pos} {m:Cm (List V)} {f:List V->Cm V} (h1:AK hq k env es m) (hf:HV hq k env bv f) (hx:env.kindOf (Str.ofString x)=some .globalImplicit) (hv:nsIn G.K mainGlobals (Str.ofString x)=some none)
  (hb:bootBuiltins (Str.ofString x)=some bv) (hn:Str.ofString x ≠ "__name__") (hd:(Str.ofString x==("__debug__" : Str))=false) (hp:(backTo pos (starEach es env)).any (·.1)=false) :
  Ev hq k env (.Call (.Name (Str.ofString x) p) es [] pos) (m.b λvs=>f vs):=by
 intro A ι q s ha R
 refine (aP.b (T':=λvs Q E s₁=>wpAny G.M A (call bv vs) Q E s₁) (h1 pos A ι q s ha R) λa q' ι' b s' _ P hv=>hf.f A ι' q' s' a b ha P.rel hv).imp λQ E y=> ?_
 show wpAny G.M A (do callWith pos (<- eval (.Name (Str.ofString x) p) env) [] (backTo pos (starEach es env)) []) Q E s
 refine wpAny_bind (jM C R hx hv hb hn hd ?_)
 exact hf.c _ _ _ _ _ _ _ hp (bZ hp (wpAny_mono y (λvs s₁ z=>z) λ_ _ z=>z))
noncomputable def dw:List V->Cm V
 | [.ref i]=>λq=>(match q.H[i]? with
  | some (.list xs)=>if xs.length<1000000 then .ok (.int xs.length) q else .stuck
  | _=> .stuck)
 | [.tup xs]=>if xs.length<1000000 then .p (.int xs.length) else .stk
 | [.scr]=> .p (.int sn.length)
 | _=> .stk
theorem Ii (C:bF G) (R:cC A env ι q s) {vs:List V} {cvs:List Value} (hv:aM ι s.heap vs cvs):aP A env ι s (dw vs q) (aL) (mh A (call (.builtin "len") cvs)):=by
 cases vs with
 | nil=>trivial
 | cons o os =>
 cases os with
 | cons _ _=>cases o<;>trivial
 | nil =>
 obtain ⟨cv,_,rfl,h1,h2⟩:=hv;rw [show _=[] from h2]
 cases o with
 | ref i =>
  obtain ⟨a,hi,rfl⟩:=h1
  unfold dw;dsimp only
  cases e:q.H[i]? with
  | none=>trivial
  | some o =>
   cases o with
   | list xs =>
    dsimp only
    split
    ·rename_i hl
     obtain ⟨a1,n1,vs,g1,g2,g3⟩:=R.st.list e
     obtain rfl:a=a1:=Option.some.inj (hi.symm.trans g1)
     have:((vs.toArray.size:Nat):Int)=(xs.length:Int):=by rw [aa1,g3.length]
     exact aP.ret R (zt _ _) λQ E hQ=>Calls.call_len_list g2.isList (by rw [this];exact Jo (bO 0xf42400a010f4240a0111 hl)) (by rw [this];exact hQ)
    ·trivial
   | _=>trivial
 | tup xs =>
  obtain ⟨a,ws,rfl,ht,hw⟩:=h1
  unfold dw;dsimp only
  split
  ·rename_i hl
   have:((ws.toArray.size:Nat):Int)=(xs.length:Int):=by rw [aa1,hw.length]
   exact aP.ret R (zt _ _) λQ E hQ=>len_tuple ht (by rw [this];exact Jo (bO 0xf42400a010f4240a0111 hl)) (by rw [this];exact hQ)
  ·trivial
 | scr =>
  rw [show cv= .ref G.sa from h1]
  haveI hl:s.heap.IsList G.sa G.sv.toArray:=C.scr.at λo e=>R.st.keep _ _ e
  have:((G.sv.toArray.size:Nat):Int)=(sn.length:Int):=by rw [aa1,IntsAre.length C.isInts]
  haveI hs:sn.length<=63:=C.short
  exact aP.ret R (zt _ _) λQ E hQ=>Calls.call_len_list hl (by rw [this];exact Jo (bO 0xf42400a0100003fa0011 hs)) (by rw [this];exact hQ)
 | _=>trivial
noncomputable def C2:List V->Cm V
 | [.int i]=> .p (.int (if i<0 then -i else i))
 | _=> .stk
theorem Ie (R:cC A env ι q s) {vs:List V} {cvs:List Value} (hv:aM ι s.heap vs cvs):aP A env ι s (C2 vs q) (aL) (mh A (call (.builtin "abs") cvs)):=by
 unfold C2
 split
 ·obtain ⟨cv,_,rfl,h1,h2⟩:=hv;rw [show _=[] from h2]
  obtain ⟨t,rfl⟩:=h1
  exact λQ E hQ=>call_abs_int λu tk=>hQ ι _ _ (aR.toks R tk) (zt _ u)
 ·trivial
noncomputable def ji:List V->Cm V
 | [o]=>λq=>(match ax o q.H with
  | some xs=>if xs.length<=1000000 then .ok (.ref q.H.length) { q with H:=q.H++[.list xs] } else .stuck
  | none=> .stuck)
 | _=> .stk
theorem CV (C:bF G) (R:cC A env ι q s) {vs:List V} {cvs:List Value} (hv:aM ι s.heap vs cvs):aP A env ι s (ji vs q) (aL) (mh A (call (.type "list") cvs)):=by
 cases vs with
 | nil=>trivial
 | cons o os =>
 cases os with
 | cons _ _=>trivial
 | nil =>
  obtain ⟨cv,_,rfl,h1,h2⟩:=hv;rw [show _=[] from h2]
  unfold ji;dsimp only
  cases e:ax o q.H with
  | none=>trivial
  | some xs =>
   dsimp only
   split
   ·rename_i hl
    obtain ⟨l,vs,rfl,g1,g2⟩:=gy C R.st h1 e
    obtain ⟨o,ho,hc,n,hd⟩:=g1
    intro Q E hQ
    refine call_list_seq l (.inl rfl) ho hc hd (λh' c' hk hD=> ?_) (by rw [aa1,g2.length,sizeLine_eq];exact bO 0xb000f4240a0011 hl)
    exact hQ _ _ _ (aR.alloc (tk:=s.toks) R hk (aaO (aaL _)) ⟨vs,⟨c',hD⟩,g2.mono (aaz _ _) (.of_stays hk)⟩) (ja R.st _)
   ·trivial
noncomputable def xM (H:Hp):V->Option String
 | .none=>some "NoneType"
 | .bool _=>some "bool"
 | .int _=>some "int"
 | .str _=>some "str"
 | .tup _=>some "tuple"
 | .scr=>some "list"
 | .ref i=>(match H[i]? with | some (.list _)=>some "list" | some (.dict _)=>some "dict" | _=>none)
 | _=>none
noncomputable def po (T:String) (v:V):Cm V:=λq=>match xM q.H v with
 | some t=> .ok (.bool (t==T||(t == "bool" && T == "int"))) q
 | none=> .stuck
theorem Hm (C:bF G) (R:er ι H h) {v:V} {cv:Value} {t:String} (r:aL ι h v cv) (e:xM H v=some t):∃P:Heap->Prop,A4 (KitX G.K cv (.type t) P) (P h) (cv≠ .builtin "__main__.__loader__#opaque") (t = "NoneType" \/ t = "bool" \/ t = "int" \/ t = "str" \/ t = "tuple" \/ t = "list" \/ t = "dict"):=by
 refine wj λX' kX=> ?_
 have nb:∀ {r:Addr},Value.ref r≠ .builtin "__main__.__loader__#opaque" := λq=>by cases q
 cases v with
 | none=>cases e;obtain rfl:cv= .none:=r;exact kX ⟨_,kitx_none,trivial,(by intro q;cases q),.inl rfl⟩
 | bool b=>cases e;obtain rfl:cv= .bool _:=r;exact kX ⟨_,kitx_bool,trivial,(by intro q;cases q),.inr (.inl rfl)⟩
 | int i=>cases e;obtain ⟨t,rfl⟩:=r;exact kX ⟨_,kitx_int,trivial,(by intro q;cases q),.inr (.inr (.inl rfl))⟩
 | str x=>cases e;obtain ⟨t,rfl⟩:=r;exact kX ⟨_,kitx_str,trivial,(by intro q;cases q),.inr (.inr (.inr (.inl rfl)))⟩
 | tup xs=>cases e;obtain ⟨a,vs,rfl,⟨o,ho,hc,_⟩,_⟩:=r;exact kX ⟨_,kitx_tuple,⟨o,ho,hc⟩,nb,.inr (.inr (.inr (.inr (.inl rfl))))⟩
 | scr =>
  cases e
  obtain ⟨o,ho,hc,_⟩:=C.scr
  obtain rfl:cv= .ref G.sa:=r
  exact kX ⟨_,kitx_list,⟨o,R.keep _ _ ho,hc⟩,nb,.inr (.inr (.inr (.inr (.inr (.inl rfl)))))⟩
 | ref i =>
  unfold xM at e;dsimp only at e
  cases hx:H[i]? with
  | none=>rw [hx] at e;cases e
  | some o =>
  rw [hx] at e
  obtain ⟨a,hi,rfl⟩:=r
  cases o with
  | list xs =>
   cases e
   obtain ⟨a1,n1,vs,g1,g2,g3⟩:=R.list hx
   obtain rfl:a=a1:=Option.some.inj (hi.symm.trans g1)
   exact kX ⟨_,kitx_list,⟨_,g2,rfl⟩,nb,.inr (.inr (.inr (.inr (.inr (.inl rfl)))))⟩
  | dict es =>
   cases e
   obtain ⟨a1,kvs,g1,⟨o,es,ep,ho,hc,_⟩,g3⟩:=R.dict hx
   obtain rfl:a=a1:=Option.some.inj (hi.symm.trans g1)
   exact kX ⟨_,kitx_dict,⟨_,ho,hc.1⟩,nb,.inr (.inr (.inr (.inr (.inr (.inr rfl)))))⟩
  | _=>cases e
 | _=>cases e
noncomputable def oK (K:Frag) (T:String):Bool:=(["NoneType", "bool", "int", "str", "tuple", "list", "dict"]).all λt=>kitOne K (.type t) (.type T)==some (t==T||(t == "bool" && T == "int"))
theorem Ih (C:bF G) {T:String} (hT:oK G.K T=true) {v:V} {cv:Value} (R:cC A env ι q s) (hv:aL ι s.heap v cv):aP A env ι s (po T v q) (aL) (mh A (call (.builtin "isinstance") [cv,.type T])):=by
 unfold po
 cases e:xM q.H v with
 | none=>trivial
 | some t =>
  obtain ⟨P,Z,p,hne,ht⟩:=Hm C R.st hv e
  haveI hk:kitOne G.K (.type t) (.type T)=some (t==T||(t == "bool" && T == "int")):=by
   unfold oK at hT
   rw [List.all_eq_true] at hT
   exact beq_iff_eq.mp (hT t (by rcases ht with rfl | rfl | rfl | rfl | rfl | rfl | rfl<;>decide))
  exact λQ E hQ=>kia_one Z (C.X.keeps R.st.keep) p hk hne λtk=>hQ ι _ _ (aR.toks R tk) (uT _)
theorem s8 (C:bF G) {T:String} (hT:oK G.K T=true) {e:Expr} {p p2 pos:Pos} {m:Cm V} (hx:env.kindOf (Str.ofString "isinstance")=some .globalImplicit) (hv:nsIn G.K mainGlobals (Str.ofString "isinstance")=some none)
  (hx2:env.kindOf (Str.ofString T)=some .globalImplicit) (hv2:nsIn G.K mainGlobals (Str.ofString T)=some none) (hb2:bootBuiltins (Str.ofString T)=some (.type T)) (hn2:Str.ofString T ≠ "__name__")
  (hd2:(Str.ofString T==("__debug__" : Str))=false) (h1:Ev hq k env e m) (he:starEach [e,.Name (Str.ofString T) p2] env=(false,eval e env)::starEach [.Name (Str.ofString T) p2] env)
  (hp:(backTo pos (starEach [e,.Name (Str.ofString T) p2] env)).any (·.1)=false) :
  Ev hq k env (.Call (.Name (Str.ofString "isinstance") p) [e,.Name (Str.ofString T) p2] [] pos) (m.b λv=>po T v):=by
 intro A ι q s ha R
 refine (aP.b (T':=λv Q E s₁=>wpAny G.M A (eval (.Name (Str.ofString T) p2) env) (λw s₂=>wpAny G.M A (call (.builtin "isinstance") [v,w]) Q E s₂) E s₁) (h1 A ι q s ha R) λa q' ι' b s' _ P hv' =>
  (Ih C hT P.rel hv').imp λQ E z=>jM C P.rel hx2 hv2 hb2 hn2 hd2 z).imp λQ E y=> ?_
 show wpAny G.M A (do callWith pos (<- eval (.Name (Str.ofString "isinstance") p) env) [] (backTo pos (starEach [e,.Name (Str.ofString T) p2] env)) []) Q E s
 refine wpAny_bind (jM C R hx hv (v:= .builtin "isinstance") ∅ ∅ ∅ ?_)
 refine Calls.callWith_builtin hp (bZ hp (wpAny_items_cons (wpAny_mono y (λv s₁ z=>wpAny_items_cons (wpAny_mono z (λw s₂ u=>wpAny_items_nil u) λ_ _ u=>u)) λ_ _ z=>z) he))
theorem fO (C:bF G):HV hq k env (.builtin "len") (dw):=⟨eS _,λ_ _ _ _ _ _ _ R hv=>Ii C R hv⟩
theorem Ib (_:bF G):HV hq k env (.builtin "abs") C2:=⟨eS _,λ_ _ _ _ _ _ _ R hv=>Ie R hv⟩
theorem CL (C:bF G):HV hq k env (.type "list") (ji):=⟨fB _,λ_ _ _ _ _ _ _ R hv=>CV C R hv⟩
end
section
variable {hq:Bool} {k:Nat} {env:Env} {A:Around} {ι ι':List Addr} {q q':S} {s s':Shared} {H H':Hp} {h:Heap}
theorem xn {x:Value} {env env':Env} (e:env.frame=env'.frame):noteFrame x env=noteFrame x env':=by
 unfold noteFrame PySem.frameOf;rw [e]
theorem nz.slots {fs:List Env} {h h':Heap} (x:nz fs ι h) (k:h.UpToSlots h'):nz fs ι h':=λenv he=>by
 refine bS λY9 y9=> ?_
 obtain ⟨a,L,o,b,c,⟨es,n,d⟩,f⟩:=x env he
 obtain ⟨sl,hs⟩:=k L o c λvs q=>by rw [d] at q;cases q
 refine y9 ?_
 exact ⟨a,L,_,b,hs,⟨es,n,d⟩,f⟩
theorem jK.slots {l:bk} {hv hl hl':Heap} (x:jK env l ι hv hl) (k:hl.UpToSlots hl'):jK env l ι hv hl' :=
 ⟨x.kind,x.glob,x.blt,let ⟨m,hn,hm⟩:=x.loc;⟨m,k.ns hn,hm⟩,x.cel,x.cells,x.ndup,x.dis,x.fresh⟩
theorem dp.at {c:String} {ev:Value} {e C L:Addr} {B:Heap} {h'':Heap} (x:dp A env ι s c ι' q' s' ev) (h1:ev= .ref e) (h2:G.xcl c=some C) (h3:env.frame=some L)
  (fl:wI B (A.frames.getD []) L e (.ref C) h'') (h5:er ι' q'.H B) (h6:jK env q'.l ι' B s'.heap) (h7:nz (A.frames.getD []) ι' s'.heap)
  (h8:∀a o,s.heap.get? a=some o->a∉own env++ι->a∉kx A->B.get? a=some o) (up:s'.heap.UpToSlots h''):dp A env ι s c ι' q' { s' with heap:=h'' } ev:=by
 have fs:=h7.slots up
 have fr:=h6.slots up
 refine ⟨x.pre,⟨e,C,B,L,h1,h2,h3,fl,h5,fr,fs,h8⟩,?_,?_,x.new,x.gens,x.os⟩
 ·intro a o ea
  by_cases h1:a∈own env
  ·obtain ⟨o',e',_⟩:=fr.mut fl.keep h1;exact ⟨o',e'⟩
  ·by_cases h2:a∈ι
   ·refine bS λY9 y9=> ?_
    obtain ⟨i,hi⟩:=List.mem_iff_getElem?.mp h2
    have hi':=getElem?_prefix x.pre hi
    obtain ⟨oa,hoa⟩:∃oa,q'.H[i]? = some oa:=⟨_,aao (h5.len▸(aab.mp hi').1)⟩
    obtain ⟨o',e'⟩:=(h5.obj i a oa hi' hoa).there
    refine y9 ?_
    exact ⟨o',fl.keep _ _ e'⟩
   ·by_cases h3:a∈kx A
    ·obtain ⟨o',e',_⟩:=dI fs h3;exact ⟨o',e'⟩
    ·exact ⟨o,fl.keep _ _ (h8 a o ea (λhm=>(aan.mp hm).elim h1 h2) h3)⟩
 ·intro a o ea hW
  by_cases h3:a∈kx A
  ·refine bS λY9 y9=> ?_
   obtain ⟨sl,e1⟩:=x.up a o ea hW
   obtain ⟨o',e',es,n,d⟩:=dI h7 h3
   rw [e1] at e';cases e'
   obtain ⟨sl2,e2⟩:=up a _ e1 λvs q=>by rw [d] at q;cases q
   refine y9 ?_
   exact ⟨sl2,e2⟩
  ·exact ⟨o.slots,fl.keep _ _ (h8 a o ea hW h3)⟩
def Ja (env:Env) (e:Addr) (h:Heap):Prop:= ∃L B fs C,env.frame=some L/\xT B fs e C (rawInt L) h
theorem dp.noted {c:String} {ev:Value} {Q:Unit->Shared->Prop} {E:Value->Shared->Prop} (ha:lv hq k A env) (x:dp A env ι s c ι' q' s' ev)
  (hQ:∀e C B L s'',ev= .ref e->env.frame=some L->G.xcl c=some C->xT B (A.frames.getD []) e (.ref C) (rawInt L) s''.heap->er ι' q'.H B->jK env q'.l ι' B s''.heap->nz (A.frames.getD []) ι' s''.heap ->
   (∀a o,s.heap.get? a=some o->a∉own env++ι->a∉kx A->B.get? a=some o)->dp A env ι s c ι' q' s'' ev->Q () s''):wpAny G.M A (noteFrame ev env) Q E s':=by
 refine bS λY9 y9=> ?_
 obtain ⟨e,C,B,L,rfl,h2,h3,fl,h5,h6,h7,h8⟩:=x.ex
 obtain ⟨fenv,rest,f1,f2,_⟩:=ha.fr
 refine y9 ?_
 have hfs:A.frames.getD []=fenv::rest:=by rw [f1];rfl
 have gZ:∀h',xT B (fenv::rest) e (.ref C) (rawInt L) h'->s'.heap.UpToSlots h'->Q () { s' with heap:=h' }:=λh' y u=>by
  rw [<- hfs] at y
  exact hQ e C B L _ rfl h3 h2 y h5 (h6.slots u) (h7.slots u) h8 (x.at rfl h2 h3 (.fly _ y (.inr rfl)) h5 h6 h7 h8 u)
 rw [hfs] at fl
 rw [xn f2.symm]
 cases fl with
 | made k n f oe vs a0 he hc hd h0 h1 h2=>exact we f1 f (f2.trans h3) he k n hd h0 h1 h2 λh' y u=>gZ h' (hc▸y) u
 | fly fl y hfl=>exact yr f1 (f2.trans h3) y hfl gZ
theorem Db {e:Addr} {E:Value->Shared->Prop} (hh:Ja env e s.heap) (hE:E (.ref e) s):cameBackBy G.M A env E (.ref e) s:=by
 refine bS λY9 y9=> ?_
 obtain ⟨L,B,fs,C,h0,y⟩:=hh
 refine y9 ?_
 cases y with
 | mk k n f oe vs a0 T oT ts h1 hc h2 _ _ h3 nT Te h4 h5 h6 =>
 show wpAny _ _ _ _ _ _
 refine wpAny_bind (wpAny_field h1 h2 h3 ?_)
 rw [if_neg (show ¬((Value.ref T==Value.none)=true) from by simp)]
 haveI step:wpAny G.M A (setFlight (.ref e) env.frame) (λ_ s''=>E (.ref e) s'') E s:=by
  unfold setFlight
  refine wpAny_bind (wpAny_field h1 h2 h3 ?_)
  rw [if_pos (show (Value.ref T != Value.none)=true from by simp),h0]
  refine wpAny_setField h4 h5 (Array.getElem?_eq_some_iff.mp h6).1 ?_
  show E (.ref e) { s with heap:=s.heap.update T (Obj.mapFields (·.setIfInBounds 3 (rawInt L))) }
  rw [Heap.update_setField_same s.heap T oT ts 3 (rawInt L) h4 h5 h6]
  exact hE
 first
  | exact wpAny_bind (wpAny_pure step)
  | exact step
theorem dp.passes {c:String} {ev:Value} {E:Value->Shared->Prop} (ha:lv hq k A env) (x:dp A env ι s c ι' q' s' ev) (hE:∀s'',dp A env ι s c ι' q' s'' ev->E ev s'') :
  notedBy G.M A env (cameBackBy G.M A env E) ev s' :=
 dp.noted ha x λe C B L s'' he hf _ y _ _ _ _ z=>by subst he;exact Db ⟨L,B,_,_,hf,y⟩ (hE s'' z)
end
structure It where
 xs:List V
 g:Hp->Prop
structure HX (A:Around) (target:Expr) (I:Addr) (priv:List Addr) (ι0:List Addr) (it:It) (St:Nat->Heap->Prop):Prop where
 mu:∀i h,St i h-> ∀b∈priv,∃o,h.get? b=some o/\CH o
 frame:∀i h h',St i h->(∀b∈priv,∀o,h.get? b=some o->h'.get? b=some o)->St i h'
 item:∀i x (s:Shared) ι H (Q:Value->Shared->Prop) E,it.xs[i]? = some x->ι0<+:ι->(∀b∈priv,b∉ι)->er ι H s.heap->it.g H->St i s.heap ->
  (∀v h' tk,(∀b o,b∉priv->s.heap.get? b=some o->h'.get? b=some o)->aL ι h' x v->St (i+1) h'->Q v { s with heap:=h',toks:=tk }) ->
  wpAny G.M A (pyNext (.ref I)) (λr s₁=>match r with | none=>False | some v=>wpAny G.M A (letOwnedTupleGo target (.ref I) v) (λ_ s₂=>Q v s₂) E s₁) E s
 done:∀(s:Shared) ι H (Q:Shared->Prop) E,ι0<+:ι->(∀b∈priv,b∉ι)->er ι H s.heap->it.g H->St it.xs.length s.heap->rX A s.heap ->
  (∀h' tk,(∀b o,b∉priv->s.heap.get? b=some o->h'.get? b=some o)->Q { s with heap:=h',toks:=tk }) ->
  wpAny G.M A (pyNext (.ref I)) (λr s₁=>match r with | none=>Q s₁ | some v=>False) E s
 self:∀i (s:Shared) (Q:Value->Shared->Prop) (E:Value->Shared->Prop),St i s.heap->Q (.ref I) s->wpAny G.M A (pyIter (.ref I)) Q E s
def xV (A:Around) (target:Expr) (h0:Heap) (ι:List Addr) (h:Heap) (it:It) (cv:Value):Prop :=
 ∃I priv St,cv= .ref I/\St 0 h/\(∀b∈priv,h0.get? b=none/\b∉ι)/\(∀H,er ι H h->True)/\HX A target I priv ι it St
def GK (hq:Bool) (k:Nat) (env:Env) (target iter:Expr) (m:Cm It):Prop :=
 ∀A ι q s,lv hq k A env->cC A env ι q s->aP A env ι s (m q) (λι' h it cv=>xV A target s.heap ι' h it cv/\ ∀q',m q= .ok it q'->it.g q'.H)
  (λQ E s=>wpAny G.M A (eval iter env) (λx s₁=>wpAny G.M A (pyIter x) Q E s₁) E s)
open Classical in
noncomputable def zr (g:Hp->Prop) (rest:Cm Fl):Fl->Cm Fl
 | .next=>λq=>if g q.H then rest q else .stuck
 | .ret v=> .p (.ret v)
noncomputable def dD (g:Hp->Prop) (bd:V->Cm Unit) (body:Cm Fl):List V->Cm Fl
 | []=> .p .next
 | v::r=>(bd v).b λ_=>body.b (zr g (dD g bd body r))
def sZ (hq:Bool) (k:Nat) (env:Env) (target:Expr) (bd:V->Cm Unit):Prop :=
 ∀A ι q s v cv,lv hq k A env->cC A env ι q s->aL ι s.heap v cv->aP A env ι s (bd v q) (λ_ _ _ _=>True) (mh A (assign target env cv))
section
variable {hq:Bool} {k:Nat} {env:Env} {A:Around} {ι ι':List Addr} {q q':S} {s s':Shared} {H H':Hp} {h:Heap}
theorem aP.of {α β:Type} {r:sM S α} {REL:List Addr->Heap->α->β->Prop} {T:PT β}
  (h:∀Q E,Fin A env ι s r REL Q E->T Q E s):aP A env ι s r REL T:=by
 cases r with
 | ok a q'=>exact λQ E x=>h Q E x
 | exc c q'=>exact λQ E x=>h Q E x
 | stuck=>trivial
theorem cC.off {priv:List Addr} {h':Heap} {tk:Nat} (R:cC A env ι q s) (hi:∀b∈priv,b∉ι/\b∉own env/\b∉kx A/\G.hB.get? b=none) (hm:∀b∈priv,∃o,s.heap.get? b=some o/\CH o)
  (hk:∀b o,b∉priv->s.heap.get? b=some o->h'.get? b=some o):cC A env ι q { s with heap:=h',toks:=tk }/\nE s.heap h':=by
 have im:nE s.heap h':=λa o e hmu=>⟨o.slots,hk a o (λhp=>by obtain ⟨o',e',m'⟩:=hm a hp;rw [e] at e';cases e';exact hmu m') e⟩
 have pr:ι<+:ι:=aaj _
 refine ⟨⟨⟨λb o e=>hk b o (λhp=>by rw [(hi b hp).2.2.2] at e;cases e) (R.st.keep b o e),R.st.len,R.st.nodup,R.st.fresh,λi a o e1 e2=> ?_⟩,
  ⟨R.fr.kind,R.fr.glob,R.fr.blt,?_,?_,?_,R.fr.ndup,R.fr.dis,R.fr.fresh⟩,?_,R.gens,R.os,R.hn.imm im⟩,im⟩
 ·exact (R.st.obj i a o e1 e2).at pr im λo' e=>hk a o' (λhp=>(hi a hp).1 (aaI e1)) e
 ·obtain ⟨m,hn,hmm⟩:=R.fr.loc
  exact ⟨m,hn.at' λo e=>hk _ o (λhp=>(hi _ hp).2.1 (.head _)) e,λy v e e2=>let ⟨cv,a,b⟩:=hmm y v e e2;⟨cv,a,b.mono pr im⟩⟩
 ·intro y v e e2
  refine bS λY9 y9=> ?_
  obtain ⟨c,o,cv,h1,h2,h3,h4⟩:=R.fr.cel y v e e2
  refine y9 ?_
  exact ⟨c,o,cv,h1,hk c o (λhp=>(hi c hp).2.1 (List.mem_cons_of_mem _ (aae.mpr ⟨_,bn h1,rfl⟩))) h2,h3,h4.mono pr im⟩
 ·intro p hp
  refine bS λY9 y9=> ?_
  obtain ⟨o,ov,h1,h2⟩:=R.fr.cells p hp
  refine y9 ?_
  exact ⟨o,ov,hk p.2 o (λhp'=>(hi _ hp').2.1 (List.mem_cons_of_mem _ (aae.mpr ⟨p,hp,rfl⟩))) h1,h2⟩
 ·intro env' he
  refine bS λY9 y9=> ?_
  obtain ⟨b1,L,o',b2,b3,b4,b5,b6⟩:=R.fs env' he
  refine y9 ?_
  exact ⟨b1,L,o',b2,hk L o' (λhp=>(hi L hp).2.2.1 (List.mem_filterMap.mpr ⟨env',he,b2⟩)) b3,b4,b5,b6⟩
theorem cC.fresh3 (R:cC A env ι q s) {a:Addr} (ha:s.heap.get? a=none):a∉own env/\a∉kx A/\G.hB.get? a=none:=by
 obtain ⟨_,n2,n3⟩:=R.fresh_ne ha
 refine ⟨n2,λhf=> ?_,n3⟩
 obtain ⟨o,e,_⟩:=dI R.fs hf
 rw [ha] at e;cases e
theorem aR.off {priv:List Addr} {h':Heap} {tk:Nat} (R:cC A env ι q s) (P:aR A env ι s ι' q' s') (hp:∀b∈priv,s.heap.get? b=none/\b∉ι') (hm:∀b∈priv,∃o,s'.heap.get? b=some o/\CH o)
  (hk:∀b o,b∉priv->s'.heap.get? b=some o->h'.get? b=some o):aR A env ι s ι' q' { s' with heap:=h',toks:=tk }/\nE s'.heap h':=by
 have off:∀b o,s.heap.get? b=some o->b∉priv:=λb o e hb=>by rw [(hp b hb).1] at e;cases e
 obtain ⟨R',im⟩:=P.rel.off (tk:=tk) (λb hb=>let ⟨x,y,z⟩:=R.fresh3 (hp b hb).1;⟨(hp b hb).2,x,y,z⟩) hm hk
 refine ⟨⟨P.pre,R',⟨λa o e=> ?_,λa o e hW=> ?_,λa o e hW hf=> ?_⟩,P.new⟩,im⟩
 ·obtain ⟨o',e'⟩:=P.kp.size a o e;exact ⟨o',hk a o' (off a o e) e'⟩
 ·obtain ⟨sl,e'⟩:=P.kp.up a o e hW;exact ⟨sl,hk a _ (off a o e) e'⟩
 ·exact hk a o (off a o e) (P.kp.ex a o e hW hf)
theorem Ig {target:Expr} {body:List Stmt} {bd:V->Cm Unit} {m:Cm Fl} {I:Addr} {priv:List Addr} {ι1:List Addr} {it:It} {St:Nat->Heap->Prop} {q1:S} {s1:Shared} (ha:lv hq k A env) (R:cC A env ι q s)
  (hb:sZ hq k env target bd) (hm:CR hq k env body m) (P1:aR A env ι s ι1 q1 s1) (hI:HX A target I priv ι1 it St) (h0:St 0 s1.heap) (hp:∀b∈priv,s.heap.get? b=none/\b∉ι1) (hg:it.g q1.H)
  {Q:Flow->Shared->Prop} {E:Value->Shared->Prop}
  (hQ:Fin A env ι s (dD it.g bd m it.xs q1) (vT) Q E) :
  codeAny G.M A (.forLoop target (.ref I) body [] env) (λr s'=>match r with | .ok f=>Q f s' | .error e=>cameBackBy G.M A env E e s') s1:=by
 obtain ⟨J,toJ,ofJ⟩:∃J:Nat->Shared->Prop,(∀n s',(∃i ι' q',i<=it.xs.length/\n=it.xs.length+1-i/\ι1<+:ι'/\aR A env ι s ι' q' s'/\St i s'.heap/\it.g q'.H/\(∀b∈priv,b∉ι')/\dD it.g bd m (it.xs.drop i) q'=dD it.g bd m it.xs q1)->J n s')/\ ∀n s',J n s'-> ∃i ι' q',i<=it.xs.length/\n=it.xs.length+1-i/\ι1<+:ι'/\aR A env ι s ι' q' s'/\St i s'.heap/\it.g q'.H/\(∀b∈priv,b∉ι')/\dD it.g bd m (it.xs.drop i) q'=dD it.g bd m it.xs q1:=⟨_,λ_ _ h=>h,λ_ _ h=>h⟩
 refine codeAny_forLoop_any J ?_ (it.xs.length+1) (toJ _ _ ⟨0,ι1,q1,Nat.zero_le _,rfl,aaj _,P1,h0,hg,λb hb=>(hp b hb).2,by rw [List.drop_zero]⟩)
 intro n s' hJ
 refine bS λY9 y9=> ?_
 obtain ⟨i,ι',q',hi,rfl,hpre,P,hst,hg',hpi,hr⟩:=ofJ n s' hJ
 refine y9 ?_
 have hp':∀b∈priv,s.heap.get? b=none/\b∉ι':=λb hb=>⟨(hp b hb).1,hpi b hb⟩
 rcases Nat.lt_or_ge i it.xs.length with hlt | hge
 ·obtain ⟨x,hx⟩:∃x,it.xs[i]? = some x:=⟨_,aao hlt⟩
  have hdrop:it.xs.drop i=x::it.xs.drop (i+1):=by
   rw [List.drop_eq_getElem_cons hlt];congr 1;rw [aao hlt] at hx;exact Option.some.inj hx
  rw [hdrop] at hr
  refine wpAny_mono (hI.item i x s' ι' q'.H (λv s₂=>wpAny G.M A (assign target env v) (λ_ s₂=>wpAny G.M A (execs body env) (λf s₃=>match f with
      | .next | .cont=> ∃m',m'<it.xs.length+1-i/\J m' s₃
      | .brk=>Q .next s₃
      | .ret v=>Q (.ret v) s₃) (notedBy G.M A env (cameBackBy G.M A env E)) s₂) (notedBy G.M A env (cameBackBy G.M A env E)) s₂) (notedBy G.M A env (cameBackBy G.M A env E)) hx hpre hpi P.rel.st hg' hst
   λv h' tk hk hv hst'=> ?_) (λr s₁ y=> ?_) λ_ _ y=>y
  ·obtain ⟨P2,im⟩:=aR.off (tk:=tk) R P hp' (hI.mu _ _ hst) hk
   have hA:=hb A ι' q' _ x v ha P2.rel hv
   have hno:∀b∈priv,b∉own env/\b∉kx A:=λb hb=>let ⟨x,y,_⟩:=R.fresh3 (hp b hb).1;⟨x,y⟩
   have stp:∀ {ιa ιb:List Addr} {qa qb:S} {sa sb:Shared},St (i+1) sa.heap->(∀b∈priv,b∉ιa)->aR A env ιa sa ιb qb sb->St (i+1) sb.heap/\ ∀b∈priv,b∉ιb:=λ{ιa ιb qa qb sa sb} hs hn Pa=>by
    refine ⟨hI.frame _ _ _ hs λb hb o e=>Pa.kp.ex b o e (λhm=>(aan.mp hm).elim (hno b hb).1 (hn b hb)) (hno b hb).2,λb hb hm=> ?_⟩
    rcases Pa.new b hm with h1 | h1
    ·exact hn b hb h1
    ·obtain ⟨o,e,_⟩:=hI.mu _ _ hs b hb;rw [h1] at e;cases e
   cases hbd:bd x q' with
   | stuck =>
    haveI:dD it.g bd m it.xs q1= .stuck:=by rw [<- hr];exact cA hbd
    rw [this] at hQ;exact hQ.elim
   | exc c q2 =>
    haveI e:dD it.g bd m it.xs q1= .exc c q2:=by rw [<- hr];exact hM hbd
    rw [e] at hQ
    rw [hbd] at hA
    exact hA _ _ λι2 ev s2 x=>(P2.transX x).passes ha λs'' y=>hQ ι2 ev s'' y
   | ok u q2 =>
    rw [hbd] at hA
    refine hA _ _ λι2 u' s2 Pa _=> ?_
    obtain ⟨hsa,hna⟩:=stp (qa:=q') hst' hpi Pa
    have hr2:(m.b (zr it.g (dD it.g bd m (it.xs.drop (i+1))))) q2=dD it.g bd m it.xs q1:=by
     rw [<- hr];exact (fT (f:=λ_=>m.b (zr it.g (dD it.g bd m (it.xs.drop (i+1))))) hbd).symm
    have P3:=P2.trans Pa
    have hB:=hm A ι2 q2 s2 ha P3.rel
    cases hmb:m q2 with
    | stuck=>rw [cA hmb] at hr2;rw [<- hr2] at hQ;exact hQ.elim
    | exc c q3 =>
     rw [hM hmb] at hr2;rw [<- hr2] at hQ
     rw [hmb] at hB
     exact hB _ _ λι3 ev s3 x=>(P3.transX x).passes ha λs'' y=>hQ ι3 ev s'' y
    | ok f q3 =>
     rw [fT hmb] at hr2
     rw [hmb] at hB
     refine hB _ _ λι3 cf s3 Pb hf=> ?_
     have P4:=P3.trans Pb
     cases f with
     | ret v =>
      obtain ⟨cv,rfl,hv⟩:=hf
      rw [<- hr2] at hQ
      exact hQ ι3 (.ret cv) s3 P4 ⟨cv,rfl,hv⟩
     | next =>
      rw [show cf= .next from hf]
      unfold zr at hr2
      dsimp only at hr2 ⊢
      obtain ⟨hsb,hnb⟩:=stp (qa:=q2) hsa hna Pb
      by_cases hg3:it.g q3.H
      ·rw [if_pos hg3] at hr2
       exact ⟨it.xs.length+1-(i+1),vd 0x30113c192c01192c191c0c212 (aaa (bP 0x191c190c010011 hi)) (sA _ _),toJ _ _ ⟨i+1,ι3,q3,hlt,rfl,hpre.trans (Pa.pre.trans Pb.pre),P4,hsb,hg3,hnb,hr2⟩⟩
      ·rw [if_neg hg3] at hr2;rw [<- hr2] at hQ;exact hQ.elim
  ·cases r with
   | none=>exact y.elim
   | some v=>exact y
 ·haveI hi':i=it.xs.length:=aaf (hi) (hge)
  subst hi'
  rw [List.drop_length] at hr
  refine wpAny_mono (hI.done s' ι' q'.H (λs₁=>Q .next s₁) _ hpre hpi P.rel.st hg' hst P.rel.hn λh' tk hk=> ?_) (λr s₁ y=> ?_) λ_ _ y=>y
  ·obtain ⟨P2,im⟩:=aR.off (tk:=tk) R P hp' (hI.mu _ _ hst) hk
   rw [<- hr] at hQ
   exact hQ ι' .next _ P2 rfl
  ·cases r with
   | none=>exact wpAny_execs_nil y
   | some v=>exact y.elim
end
section
variable {hq:Bool} {k:Nat} {env:Env} {A:Around} {ι ι':List Addr} {q q':S} {s s':Shared} {H H':Hp} {h:Heap}
theorem fq {target iter:Expr} {body:List Stmt} {pos:Pos} {mi:Cm It} {bd:V->Cm Unit} {m:Cm Fl} (h1:GK hq k env target iter mi) (hb:sZ hq k env target bd) (hm:CR hq k env body m)
  (hs:∀x,foldedSetIterable iter env x=pure x):Ex hq k env (.For target iter body [] pos) (mi.b λit=>dD it.g bd m it.xs):=by
 intro A ι q s ha R
 have hi:=h1 A ι q s ha R
 refine aP.of λQ E hQ=>wpAny_For ?_ hs
 cases hmi:mi q with
 | stuck=>rw [cA hmi] at hQ;exact hQ.elim
 | exc c q1=>rw [hM hmi] at hQ;rw [hmi] at hi;exact hi _ _ hQ
 | ok it q1 =>
  rw [fT hmi] at hQ
  rw [hmi] at hi
  refine hi _ _ λι1 cv s1 P1 hr=> ?_
  refine bS λY9 y9=> ?_
  obtain ⟨⟨I,priv,St,rfl,h0,hp,_,hI⟩,hg⟩:=hr
  refine y9 ?_
  exact Ig ha R hb hm P1 hI h0 hp (hg q1 rfl) hQ
theorem bJ {x:String} {p:Pos} (hx:xS env x:=by exact .inl ∅):sZ hq k env (.Name (Str.ofString x) p) (aY x) :=
 λA ι q s v cv ha R hv=>(o9 hx R hv).imp λQ E y=>wpAny_assign_Name y
noncomputable def ww (x y:String):V->Cm Unit
 | .tup [a,b]=>(aY x a).b λ_=>aY y b
 | _=> .stk
theorem CK {x y:String} {p p2 pos:Pos} {kk:Nat} (hh:hq=true) (hx:xS env x) (hy:xS env y):sZ hq k env (.Tuple [.Name (Str.ofString x) p,.Name (Str.ofString y) p2] kk pos) (ww x y):=by
 intro A ι q s v cv ha R hv
 cases v with
 | tup l =>
  cases l with
  | nil=>trivial
  | cons a l =>
  cases l with
  | nil=>trivial
  | cons b l =>
  cases l with
  | cons _ _=>trivial
  | nil =>
  refine bS λY9 y9=> ?_
  obtain ⟨t,vs,rfl,ht,ca,vs1,rfl,ra,cb,vs2,rfl,rb,e⟩:=hv
  refine y9 ?_
  rw [show vs2=[] from e] at ht
  haveI key:∀h',s.heap.StaysIn h'->aP A env ι { s with heap:=h' } (((aY x a).b λ_=>aY y b) q) (λ_ _ _ _=>True) (λQ E s₁=>wpAny G.M A (storeName env (Str.ofString x) ca) (λ_ s₂=>wpAny G.M A (storeName env (Str.ofString y) cb) Q E s₂) E s₁):=λh' st=>by
   have R':=R.stays (tk:=s.toks) st
   have im:=nE.of_stays st
   exact aP.b (m:=aY x a) (T':=λ_ Q E s₁=>wpAny G.M A (storeName env (Str.ofString y) cb) Q E s₁) (o9 hx R' (ra.mono (aaj _) im)) λ_ q2 ι2 _ s2 _ P2 _ =>
    o9 hy P2.rel (P2.vrel R' (rb.mono (aaj _) im))
  show aP A env ι s (.ok () ⟨upd (upd q.l x a) y b,q.H⟩) _ _
  intro Q E hQ
  refine assign_Tuple_tuple (ha.hd hh) ht rfl rfl λh' he=> ?_
  have st:s.heap.StaysIn h':=λb o e=>he b o (Nat.ne_of_lt (Heap.lt_size e)) e
  show wpAny G.M A (do holding _ (assign (.Name (Str.ofString x) p) env ca);do holding _ (assign (.Name (Str.ofString y) p2) env cb);pure ()) Q E { s with heap:=h' }
  refine wpAny_bind (wpAny_holding (wpAny_assign_Name ?_))
  refine wpAny_mono (key h' st (λu s₂=>Q () s₂) E λι2 u s2 P2 _=>hQ ι2 () s2 ((aR.stays (tk:=s.toks) R st).trans P2) trivial) (λu s₂ y=> ?_) λ_ _ y=>y
  exact wpAny_bind (wpAny_holding (wpAny_assign_Name (wpAny_mono y (λu s₂ z=>wpAny_pure z) λ_ _ z=>z)))
 | _=>trivial
inductive Io:Expr->Prop
 | name (x:Str) (p:Pos):Io (.Name x p)
 | pair (es:List Expr) (kk:Nat) (p:Pos):Io (.Tuple es kk p)
theorem Ak {target:Expr} (ht:Io target) {I l:Addr} {i:Nat} {v:Value} {Q:Unit->Shared->Prop} {E:Value->Shared->Prop} (hit:s.heap.IsListIter I l i) (hQ:Q () s) :
  wpAny G.M A (letOwnedTupleGo target (.ref I) v) Q E s:=by
 cases ht with
 | name x p=>exact wpAny_pure hQ
 | pair es kk p =>
  cases v with
  | ref T=>exact wpAny_letOwnedTupleGo_listiter hit hQ
  | _=>exact wpAny_pure hQ
noncomputable def eA (v:V):Cm It:=λq=>match ax v q.H with
 | some xs=> .ok ⟨xs,λH=>ax v H=some xs⟩ q
 | none=> .stuck
theorem fF {h:Heap} {I l:Addr} {i:Nat} (x:h.IsListIter I l i):∃o,h.get? I=some o/\CH o:=let ⟨o,ho,hc,_⟩:=x;⟨o,ho,.inl ⟨_,hc,by decide⟩⟩
theorem Ba {h h':Heap} {I:Addr} (hm:∃o,h.get? I=some o/\CH o) (hs:Heap.ExtBut I h h'):nE h h':=λa o e hmu=>⟨o.slots,hs a o (λq=>by
 obtain ⟨o',e',m'⟩:=hm;rw [<- q,e] at e';cases e';exact hmu m') e⟩
end
theorem u6:entryFor table "proto.unchain" = some Builtin.«proto.unchain» := entryFor_of_fast ∅
section
variable {prog:Program} {w:World} {A:Around} {s:Shared} {α:Type}
theorem zj {Q:α->Shared->Prop} {E:Value->Shared->Prop} (hn:rX A s.heap) {t:Addr} {vs:Array Value} {o:Obj} (h0:s.heap.get? t=some o) (hd:o.data= .fields vs) (h2:2<vs.size) (hc:o.cls= .type "StopIteration")
  (hE:∀h',(∀b o,b≠t->s.heap.get? b=some o->h'.get? b=some o)->(∃o',h'.get? t=some o'/\o'.cls= .type "StopIteration")->E (.ref t) { s with heap:=h' }) :
  wpAny (model prog w) A (raiseNew (.ref t):Sem α) Q E s:=by
 simp only [raiseNew]
 refine wpAny_bind (wpAny_handled ?_)
 cases hh:A.handled with
 | none=>exact wpAny_bind (wpAny_pure (wpAny_throw (hE s.heap (λ_ _ _ e=>e) ⟨o,h0,hc⟩)))
 | some v =>
  refine bS λY9 y9=> ?_
  obtain ⟨e,oe,C,ws,rfl,e1,e2,e3,e4⟩:=hn v hh
  refine y9 ?_
  haveI ne:e≠t:=λq=>by subst q;rw [e1] at h0;cases h0;rw [e2] at hc;cases hc
  dsimp only
  rw [if_pos (show (Value.ref e != Value.ref t)=true by simp [ne])]
  refine wpAny_bind (wpAny_holding (wpAny_runValue (codeAny_builtin u6 ?_)))
  show wpAny _ _ (field (.ref e) 2 >>= _) _ _ s
  refine wpAny_bind (wpAny_field e1 e3 e4 ?_)
  rw [if_pos ∅]
  refine wpAny_bind (wpAny_pure (wpAny_pure ?_))
  haveI:=wpAny_setField (M:=model prog w) (A:=A) (E:=E) (i:=2) (x:= .ref e) (Q:=λ_ s'=>wpAny (model prog w) A (throw (.ref t):Sem α) Q E s') h0 hd h2 (wpAny_throw (hE _ (λb o hb eb=>(Heap.get?_update_other _ _ (Ne.symm hb)).trans eb) ⟨_,Heap.get?_update_self _ h0 (Obj.isFreed_of_fields (Obj.data_mapFields hd _)),(Obj.cls_mapFields _ _).trans hc⟩))
  exact wpAny_bind this
theorem wx {β:Type} {F:Value->Sem β} {Q':β->Shared->Prop} {Q:Option Value->Shared->Prop} {E:Value->Shared->Prop} (hn:rX A s.heap) (hF:∀v,F v=raiseNew v)
  (hQ:∀h',s.heap.StaysIn h'->Q none { s with heap:=h' }) :
  wpAny (model prog w) A.in1 (newExc (.type "StopIteration") [] >>= F) Q' (λe s'=>wpAny (model prog w) A (do
   let b <- isInstance e (.type "StopIteration")
   if b=true then pure none else throw e) Q E s') s:=by
 simp only [newExc,newTuple]
 refine wpAny_bind (wpAny_bind (wpAny_newObj_type ?_ (by size_fits)))
 refine wpAny_bind (m:=firstArgMember _ _) (wpAny_of_eq (a:=Value.none) (by first | rfl | (simp only [firstArgMember];rfl)) ?_)
 refine wpAny_newObj_type ?_ (by size_fits)
 rw [hF]
 refine zj (A:=A.in1) (rX.imm (A:=A.in1) hn (.of_stays λb o e=>aal _ (aal _ e))) (aaM _ rfl) rfl (by rw [Array.size_append];exact aaX (show 2<6 by decide) (aaK _ _)) rfl λh' hk ho=> ?_
 obtain ⟨o',e1,e2⟩:=ho
 refine wpAny_bind (wpAny_isInstance (T := "StopIteration") (b:=true) ⟨_,e1,e2⟩ isSubtype_stop ?_)
 exact wpAny_pure (hQ h' λb o e=>hk b o (Nat.ne_of_lt (Heap.lt_size (aal _ e))) (aal _ (aal _ e)))
theorem vc {Q:Option Value->Shared->Prop} {E:Value->Shared->Prop} {it l:Addr} {i:Nat} {items:Array Value} (hn:rX A s.heap) (hit:s.heap.IsListIter it l i) (hl:s.heap.IsList l items) (hx:items[i]? = none)
  (hQ:∀h',Heap.ExtBut it s.heap h'->Q none { s with heap:=h' }):wpAny (model prog w) A (pyNext (.ref it)) Q E s:=by
 haveI hm:=fF hit
 refine bS λY9 y9=> ?_
 obtain ⟨o,ho,hc,hd⟩:=id hit
 obtain ⟨ol,hol,_,nl,hdl⟩:=hl
 refine y9 ?_
 unfold pyNext
 refine wpAny_bind (wpAny_attempt (wpAny_callSpecial?_slot (name:=Str.ofString "__next__") hit.typeIs slot_listiter_next (wpAny_call_entry slot_listiter_next hit.typeIs entry_listiter_next ?_ (args_listiter_next _))))
 show wpAny _ _ (field (.ref it) 0 >>= _) _ _ s
 refine wpAny_bind (wpAny_field ho hd (x:= .ref l) rfl ?_)
 show wpAny _ _ (if (Value.ref l==Value.none)=true then _ else _) _ _ s
 rw [if_neg (show ¬((Value.ref l==Value.none)=true) from aa5)]
 show wpAny _ _ (field (.ref it) 1 >>= _) _ _ s
 refine wpAny_bind (wpAny_field ho hd (x:= .int i 0) rfl ?_)
 show wpAny _ _ (seqItems? (.ref l) >>= _) _ _ s
 refine wpAny_bind (wpAny_seqItems hol hdl ?_)
 simp only [Int.toNat_natCast,hx]
 refine wpAny_bind (wpAny_rule (wpAny_bind (wpAny_setField ho hd (by simp) ?_)))
 have ex:=(Heap.SameBut.update s.heap it (Obj.mapFields (·.setIfInBounds 0 Value.none))).extBut
 exact wx (hn.imm (Ba hm ex)) (λ_=>rfl) λh' hs=>hQ h' λb o hb e=>hs b o (ex b o hb e)
theorem ua {Q:Option Value->Shared->Prop} {E:Value->Shared->Prop} {it:Addr} {x left step:Int} (hn:rX A s.heap) (hit:IsRangeIter s.heap it x left step) (hleft:left<=0)
  (hQ:∀h',s.heap.StaysIn h'->Q none { s with heap:=h' }):wpAny (model prog w) A (pyNext (.ref it)) Q E s:=by
 have hT:s.TypeIs (.ref it) "range_iterator" := ⟨_,hit,rfl⟩
 unfold pyNext
 refine wpAny_bind (wpAny_attempt (wpAny_callSpecial?_slot (name:=Str.ofString "__next__") hT F.slot_range_iterator_next (wpAny_call_entry F.slot_range_iterator_next hT F.entry_range_iterator_next ?_ (F.args_range_iterator_next_1 _))))
 show wpAny _ _ (field (.ref it) 0 >>= _) _ _ s
 refine wpAny_bind (wpAny_field hit rfl (x:=rawInt x) rfl ?_)
 show wpAny _ _ (field (.ref it) 1 >>= _) _ _ s
 refine wpAny_bind (wpAny_field hit rfl (x:=rawInt left) rfl ?_)
 show wpAny _ _ (field (.ref it) 2 >>= _) _ _ s
 refine wpAny_bind (wpAny_field hit rfl (x:=rawInt step) rfl ?_)
 show wpAny _ _ (if left<=0 then _ else _) _ _ s
 rw [if_pos hleft]
 refine wpAny_bind (wpAny_rule ?_)
 refine wpAny_bind ?_
 exact wx hn (λ_=>rfl) hQ
end
section
variable {hq:Bool} {k:Nat} {env:Env} {A:Around} {ι ι':List Addr} {q q':S} {s s':Shared} {H H':Hp} {h:Heap}
theorem DC (C:bF G) {target:Expr} (ht:Io target) {I l:Addr} {v:V} {xs:List V} (hv:∀ι',ι<+:ι'-> ∀h,aL ι' h v (.ref l)) (hs:(∃j,v= .ref j)\/v= .scr) (hI:l≠I) :
  HX A target I [I] ι ⟨xs,λH=>ax v H=some xs⟩ (λi h=>h.IsListIter I l i) where
 mu:=λi h st b hb=>by simp at hb;subst hb;exact fF st
 frame:=λi h h' st hk=>st.at λo e=>hk I (by simp) o e
 item:=λi x s ι' H Q E hx hpre hpi R hg st hQ=>by
  refine bS λY9 y9=> ?_
  obtain ⟨a,vs,e,g1,g2⟩:=gy C R (hv ι' hpre s.heap) hg
  refine y9 ?_
  cases e
  obtain ⟨cv,c1,c2⟩:=g2.get hx
  refine wpAny_pyNext_list_item st g1 (x:=cv) (by simpa using c1) λh' st' hs=> ?_
  exact Ak ht st' (hQ cv h' s.toks (λb o hb e=>hs.extBut b o (λq=>hb (by simp [q])) e) (c2.mono (aaj _) (Ba (fF st) hs.extBut)) st')
 done:=λs ι' H Q E hpre hpi R hg st hn hQ=>by
  refine bS λY9 y9=> ?_
  obtain ⟨a,vs,e,g1,g2⟩:=gy C R (hv ι' hpre s.heap) hg
  refine y9 ?_
  cases e
  refine vc hn st g1 (by simp [g2.length]) λh' hs=> ?_
  exact hQ h' s.toks λb o hb e=>hs b o (λq=>hb (by simp [q])) e
 self:=λi s Q E st hQ=>wpAny_pyIter_listiter st hQ
theorem cE (C:bF G) {target iter:Expr} (ht:Io target) {m:Cm V} (h1:Ev hq k env iter m):GK hq k env target iter (m.b λv=>eA v):=by
 intro A ι q s ha R
 refine aP.of λQ E hQ=> ?_
 have h1':=h1 A ι q s ha R
 cases hm:m q with
 | stuck=>rw [cA hm] at hQ;exact hQ.elim
 | exc c q1=>rw [hM hm] at hQ;rw [hm] at h1';exact h1' _ _ hQ
 | ok v q1 =>
  rw [fT hm] at hQ
  rw [hm] at h1'
  refine h1' _ _ λι1 cv s1 P1 hv=> ?_
  unfold eA at hQ
  cases hi:ax v q1.H with
  | none=>rw [hi] at hQ;exact hQ.elim
  | some xs =>
   rw [hi] at hQ
   obtain ⟨l,vs,rfl,g1,g2⟩:=gy C P1.rel.st hv hi
   refine wpAny_pyIter_list g1 ?_
   haveI st:s1.heap.StaysIn (s1.heap.push { cls:= .type "list_iterator",data:= .fields #[.ref l,.int 0 0] }):=λb o e=>aal _ e
   have nw:s1.heap.get? s1.heap.objs.size=none:=aaO (aaL _)
   haveI P2:=P1.trans (aR.stays (tk:=s1.toks) P1.rel st)
   haveI hv2:∀ι',ι1<+:ι'-> ∀h,aL ι' h v (.ref l):=λι' hp h=>tJ hi hv hp
   refine hQ ι1 _ _ P2 ⟨⟨s1.heap.objs.size,[s1.heap.objs.size],_,rfl,⟨_,aaM _ rfl,rfl,rfl⟩,λb hb=> ?_,λ_ _=>trivial,DC C ht hv2 ?_ λe=> ?_⟩,λq' e=> ?_⟩
   ·simp at hb;subst hb
    refine ⟨?_,(P1.rel.fresh_ne nw).1⟩
    cases e:s.heap.get? s1.heap.objs.size with
    | none=>rfl
    | some o=>obtain ⟨o',e'⟩:=P1.kp.size _ _ e;rw [nw] at e';cases e'
   ·exact Ah hi
   ·obtain ⟨o,e',_⟩:=g1
    rw [e,nw] at e';cases e'
   ·cases e
    exact hi
theorem Gc (C:bF G) {target:Expr} {x:String} {bv:Value} {es:List Expr} {p pos:Pos} {m:Cm (List V)} {f:List V->Cm It} (hx:env.kindOf (Str.ofString x)=some .globalImplicit) (hv:nsIn G.K mainGlobals (Str.ofString x)=some none)
  (hb:bootBuiltins (Str.ofString x)=some bv) (hn:Str.ofString x ≠ "__name__") (hd:(Str.ofString x==("__debug__" : Str))=false) (hc:sJ bv) (h1:AK hq k env es m) (hp:(backTo pos (starEach es env)).any (·.1)=false)
  (hf:∀A ι q s vs cvs,lv hq k A env->cC A env ι q s->aM ι s.heap vs cvs->aP A env ι s (f vs q) (λι' h it cv=>xV A target s.heap ι' h it cv/\ ∀q',f vs q= .ok it q'->it.g q'.H)
   (λQ E s=>wpAny G.M A (call bv cvs) (λx s₁=>wpAny G.M A (pyIter x) Q E s₁) E s)) :
  GK hq k env target (.Call (.Name (Str.ofString x) p) es [] pos) (m.b λvs=>f vs):=by
 intro A ι q s ha R
 refine aP.of λQ E hQ=> ?_
 have h1':=h1 pos A ι q s ha R
 show wpAny G.M A (do callWith pos (<- eval (.Name (Str.ofString x) p) env) [] (backTo pos (starEach es env)) []) _ E s
 refine wpAny_bind (jM C R hx hv hb hn hd ?_)
 refine hc _ _ _ _ _ _ _ hp (bZ hp ?_)
 cases hm:m q with
 | stuck=>rw [cA hm] at hQ;exact hQ.elim
 | exc c q1=>rw [hM hm] at hQ;rw [hm] at h1';exact h1' _ _ hQ
 | ok vs q1 =>
  rw [fT hm] at hQ
  rw [hm] at h1'
  refine h1' _ _ λι1 cvs s1 P1 hv=> ?_
  haveI h2:=hf A ι1 q1 s1 vs cvs ha P1.rel hv
  refine aP.mono P1 h2 ?_
  cases hfv:f vs q1 with
  | stuck=>rw [hfv] at hQ;exact hQ
  | exc c q2=>rw [hfv] at hQ;exact hQ
  | ok it q2 =>
   rw [hfv] at hQ
   refine λι2 cv s2 P2 r=>hQ ι2 cv s2 P2 ⟨?_,λq' e=> ?_⟩
   ·refine bS λY9 y9=> ?_
    obtain ⟨⟨I,priv,St,e1,e2,e3,e4,e5⟩,_⟩:=r
    refine y9 ?_
    refine ⟨I,priv,St,e1,e2,λb hb=>⟨?_,(e3 b hb).2⟩,e4,e5⟩
    cases e:s.heap.get? b with
    | none=>rfl
    | some o=>obtain ⟨o',e'⟩:=P1.kp.size _ _ e;rw [(e3 b hb).1] at e';cases e'
   ·exact r.2 q' e
noncomputable def bE (a:Int):Nat->List V
 | 0=>[]
 | n+1=> .int a::bE (a+1) n
theorem gf:∀(n:Nat) (a:Int),(bE a n).length=n
 | 0,_=>rfl
 | n+1,a=>by rw [bE,aau,gf n]
theorem uj:∀(n:Nat) (a:Int) (i:Nat) (x:V),(bE a n)[i]? = some x->x= .int (a+i)/\i<n
 | 0,a,i,x,e=>by simp [bE] at e
 | n+1,a,0,x,e=>by simp [bE] at e;exact ⟨by rw [<- e];simp,bO 0x190c0910⟩
 | n+1,a,i+1,x,e=>by
  simp [bE] at e
  obtain ⟨h1,h2⟩:=uj n (a+1) i x e
  exact ⟨by rw [h1];congr 1;push_cast;exact aa4 (dE 0x190fc0c0f190cc80) (dE 0xf190cc190fc0c80),bP 0x191c190c110111 h2⟩
noncomputable def dh:List V->Cm It
 | [.int b]=>if -1000000<b/\b<1000000 then .p ⟨bE 0 b.toNat,λ_=>True⟩ else .stk
 | [.int a,.int b]=>if (-1000000<a/\a<1000000) /\ -1000000<b/\b<1000000 then .p ⟨bE a (b-a).toNat,λ_=>True⟩ else .stk
 | _=> .stk
theorem xy (a b:Int):Builtin.Range.rangeSize a b 1=(((b-a).toNat:Nat):Int):=by
 unfold Builtin.Range.rangeSize
 simp
 split
 ·rename_i h;exact (Int.max_eq_left (Int.sub_nonneg.mpr (Int.le_of_lt h))).symm
 ·rename_i h;exact (Int.max_eq_right (Int.sub_nonpos_of_le (Int.not_lt.mp h))).symm
theorem xx {z:Int} (h1 : -1000000<z) (h2:z<2000000):Builtin.Range.rangeFitsLong z=true:=by
 unfold Builtin.Range.rangeFitsLong;simp
 exact ⟨aa9 ∅ (Int.le_of_lt h1),Int.lt_trans h2 ∅⟩
theorem zc {a b:Int} (ha : -1000000<a/\a<1000000) (hb : -1000000<b/\b<1000000):Builtin.Range.small a b 1=true:=by
 unfold Builtin.Range.small
 simp [xy,xx ha.1 (Int.lt_trans ha.2 ∅),xx hb.1 (Int.lt_trans hb.2 ∅),xx (z:=1) ∅ ∅,xx (z:=max (b-a) 0) (Int.lt_of_lt_of_le ∅ (Int.le_max_right _ _)) (Int.max_lt.mpr ⟨Int.lt_of_lt_of_le (Int.sub_lt_sub hb.2 ha.1) ∅,by decide⟩)]
theorem Cc {x:Str} {p:Pos} {I:Addr} (a:Int) (n:Nat) :
  HX A (.Name x p) I [I] ι ⟨bE a n,λ_=>True⟩ (λi h=>IsRangeIter h I (a+(i:Nat)) ((n:Int)-(i:Nat)) 1) where
 mu:=λi h st b hb=>by simp at hb;subst hb;exact ⟨_,st,.inl ⟨_,rfl,by decide⟩⟩
 frame:=λi h h' st hk=>hk I (by simp) _ st
 item:=λi x s ι' H Q E hx hpre hpi R hg st hQ=>by
  obtain ⟨rfl,hlt⟩:=uj _ _ _ _ hx
  refine wpAny_pyNext_range_item st (bP 0xf1fe09910111 hlt) λh' st' hs=> ?_
  refine wpAny_pure (hQ _ h' _ (λb o hb e=>hs.extBut b o (λq=>hb (by simp [q])) e) (zt _ _) ?_)
  rw [show a+((i+1:Nat):Int)=a+(i:Int)+1 by push_cast;exact aa4 (dE 0x190f0cc190fc0c80) (dE 0x190fc0c190f0cc80),show (n:Int)-((i+1:Nat):Int)=(n:Int)-(i:Int)-1 by push_cast;exact aa4 (bP 0x191f0fee191fc0fe80) (bP 0x191fc0fe191f0fee80)]
  exact st'
 done:=λs ι' H Q E hpre hpi R hg st hn hQ=>by
  refine ua hn st (by dsimp only;rw [gf];exact bO 0x90f0fe80) λh' hs=> ?_
  exact hQ h' s.toks λb o hb e=>hs b o e
 self:=λi s Q E st hQ=>wpAny_pyIter_rangeiter st hQ
theorem re {x:Str} {p:Pos} {a b:Int} {t u v:Tok} {tk:Nat} (R:cC A env ι q s) (ha : -1000000<a/\a<1000000) (hb : -1000000<b/\b<1000000) {Q:Value->Shared->Prop} {E:Value->Shared->Prop}
  (hQ:∀ι'' cv s'',aR A env ι s ι'' q s''->(xV A (.Name x p) s.heap ι'' s''.heap ⟨bE a (b-a).toNat,λ_=>True⟩ cv)->Q cv s'') :
  wpAny G.M A (pyIter (.ref s.heap.objs.size)) Q E { s with heap:=s.heap.push { cls:= .type "range",data:= .fields #[.int a t,.int b u,.int 1 v] },toks:=tk }:=by
 haveI hsz:=xy a b
 refine wpAny_pyIter_range (aaM _ rfl) ?_ ?_
 ·exact zc ha hb
 ·rw [hsz]
  haveI st:s.heap.StaysIn ((s.heap.push { cls:= .type "range",data:= .fields #[.int a t,.int b u,.int 1 v] }).push { cls:= .type "range_iterator",data:= .fields #[rawInt a,rawInt (((b-a).toNat:Nat):Int),rawInt 1] }) :=
   λc o e=>aal _ (aal _ e)
  refine hQ ι _ _ (aR.stays R st) ⟨_,[_],_,rfl,?_,λc hc=> ?_,λ_ _=>trivial,Cc a (b-a).toNat⟩
  ·haveI:=aaM (s.heap.push { cls:= .type "range",data:= .fields #[.int a t,.int b u,.int 1 v] }) (o:={ cls:= .type "range_iterator",data:= .fields #[rawInt a,rawInt (((b-a).toNat:Nat):Int),rawInt 1] }) rfl
   simpa using this
  ·simp at hc;subst hc
   have nw:s.heap.get? (s.heap.push { cls:= .type "range",data:= .fields #[.int a t,.int b u,.int 1 v] }).objs.size=none:=aaO (by rw [Heap.size_push];exact bO 0x190c000)
   rw [Heap.size_push] at nw
   exact ⟨nw,(R.fresh_ne nw).1⟩
theorem EZ {x:Str} {p:Pos} (R:cC A env ι q s) {vs:List V} {cvs:List Value} (hv:aM ι s.heap vs cvs) :
  aP A env ι s (dh vs q) (λι' h it cv=>xV A (.Name x p) s.heap ι' h it cv/\ ∀q',dh vs q= .ok it q'->it.g q'.H)
   (λQ E s=>wpAny G.M A (call (.type "range") cvs) (λx s₁=>wpAny G.M A (pyIter x) Q E s₁) E s):=by
 cases vs with
 | nil=>trivial
 | cons v vs =>
 cases v with
 | int a =>
  cases vs with
  | nil =>
   obtain ⟨cv,_,rfl,⟨t,rfl⟩,e⟩:=hv;rw [show _=[] from e]
   unfold dh;dsimp only
   split
   ·rename_i hb
    intro Q E hQ
    refine call_range_1 (re (b:=a) R ∅ hb λι2 cv s2 P r=>hQ ι2 cv s2 P ⟨by simpa using r,λq' e=> ?_⟩)
    cases e;trivial
   ·trivial
  | cons v vs =>
  cases vs with
  | cons _ _=>cases v<;>trivial
  | nil =>
  cases v with
  | int b =>
   obtain ⟨cv,_,rfl,⟨t,rfl⟩,cv2,_,rfl,⟨t2,rfl⟩,e⟩:=hv;rw [show _=[] from e]
   unfold dh;dsimp only
   split
   ·rename_i hb
    intro Q E hQ
    refine call_range_2 (re (b:=b) R hb.1 hb.2 λι2 cv s2 P r=>hQ ι2 cv s2 P ⟨r,λq' e=> ?_⟩)
    cases e;trivial
   ·trivial
  | _=>trivial
 | _=>trivial
theorem jc (C:bF G) {x:Str} {px p pos:Pos} {es:List Expr} {m:Cm (List V)} (hx:env.kindOf (Str.ofString "range")=some .globalImplicit) (hv:nsIn G.K mainGlobals (Str.ofString "range")=some none)
  (h1:AK hq k env es m) (hp:(backTo pos (starEach es env)).any (·.1)=false):GK hq k env (.Name x px) (.Call (.Name (Str.ofString "range") p) es [] pos) (m.b λvs=>dh vs) :=
 Gc C hx hv (bv:= .type "range") ∅ ∅ ∅ (fB _) h1 hp λA ι q s vs cvs ha R hv=>EZ R hv
end
noncomputable def pI (K:Frag) (N:Addr):Bool:=match K.lookup N with
 | some ⟨_,_,.dict es _,_⟩=>es.toList.all (λe=>match e.key with | .str _ _=>true | _=>false)&&(nsFind es "__init__").isNone
 | _=>false
noncomputable def C9:List Value:=[.type "ValueError",.type "Exception",.type "BaseException",.type "object"]
noncomputable def BO (K:Frag):List Value->Bool
 | .ref a::tl=>(match K.lookup a with | some ⟨_,_,.cls cd,_⟩=>pI K cd.ns&&BO K tl | _=>false)
 | l=>decide (l=C9)
noncomputable def oh (K:Frag) (C:Addr):Bool:=match K.lookup C with
 | some ⟨.type "type",_,.cls cd,sl⟩=>(match cd.mro with
   | .ref C'::bm=>decide (C'=C)&&BO K bm
   | _=>false) && !cd.hasDel&&decide (sl.size=6)&&decide (sl[4]? = some (some (.builtin "ValueError.__new__")))&&pI K cd.ns
 | _=>false
theorem ub {K:Frag} {N:Addr} {h:Heap} (X:K.In h) (x:pI K N=true):∃m,h.Ns N m/\m "__init__" = none:=by
 unfold pI at x
 cases hl:K.lookup N with
 | none=>rw [hl] at x;cases x
 | some o =>
 rw [hl] at x
 obtain ⟨c,d,da,sl⟩:=o
 cases da with
 | dict es n =>
  dsimp only at x
  rw [Bool.and_eq_true,List.all_eq_true] at x
  refine ⟨nsFind es,⟨_,es,n,X _ _ hl,rfl,λe he=> ?_,λ_=>rfl⟩,Option.isNone_iff_eq_none.mp x.2⟩
  have:=x.1 e (Array.mem_toList_iff.mpr he)
  cases hk:e.key with
  | str a b=>exact ⟨_,_,rfl⟩
  | _=>rw [hk] at this;cases this
 | _=>cases x
theorem wG {K:Frag} {h:Heap} (X:K.In h):∀ {l:List Value},BO K l=true->OwnTail h C9 l
 | [],x=>(nomatch of_decide_eq_true (p:=[]=C9) x)
 | v::tl,x=>by
  cases v with
  | ref a =>
   change (match K.lookup a with | some ⟨_,_,.cls cd,_⟩=>pI K cd.ns&&BO K tl | _=>false)=true at x
   cases hl:K.lookup a with
   | none=>rw [hl] at x;cases x
   | some o =>
   rw [hl] at x
   refine bS λY9 y9=> ?_
   obtain ⟨c,d,da,sl⟩:=o
   refine y9 ?_
   cases da with
   | cls cd =>
    dsimp only at x
    rw [Bool.and_eq_true] at x
    obtain ⟨m,hn,hi⟩:=ub X x.1
    exact .own (X _ _ hl) hn hi (wG X x.2)
   | _=>cases x
  | _=>rw [show _=C9 from of_decide_eq_true x];exact .base
theorem HT {K:Frag} {C:Addr} {h:Heap} (X:K.In h) (x:oh K C=true) :
  ∃nm q N bs bm hdct sx sub ab col dd k0 k1 k2 k3 k5 mN,A5 (h.get? C=some (excClassObj nm q C N bs bm hdct sx sub ab col dd k0 k1 k2 k3 k5 "ValueError.__new__")) (K.lookup C=some (excClassObj nm q C N bs bm hdct sx sub ab col dd k0 k1 k2 k3 k5 "ValueError.__new__")) (h.Ns N mN) (mN "__init__" = none) (OwnTail h C9 bm):=by
 refine wj λX' kX=> ?_
 unfold oh at x
 split at x
 ·rename_i oc dd cd sl hl
  obtain ⟨nm,bs,mro,N,q,hdct,sx,sub,ab,col,hdel⟩:=cd
  simp only [Bool.and_eq_true,decide_eq_true_eq,Bool.not_eq_true'] at x
  obtain ⟨⟨⟨⟨hm,hdl⟩,hsz⟩,hmk⟩,hns⟩:=x
  split at hm
  ·rename_i C' bm
   simp only [Bool.and_eq_true,decide_eq_true_eq] at hm
   obtain ⟨rfl,ht⟩:=hm
   obtain ⟨l⟩:=sl
   obtain ⟨k0,k1,k2,k3,k5,rfl⟩:=six_places (l:=l) (by simpa using hsz) (by simpa using hmk)
   obtain rfl:hdel=false:=hdl
   obtain ⟨m,hn,hi⟩:=ub X hns
   exact kX ⟨nm,q,N,bs,bm,hdct,sx,sub,ab,col,dd,k0,k1,k2,k3,k5,m,X _ _ hl,hl,hn,hi,wG X ht⟩
  ·cases hm
 ·cases x
section
variable {hq:Bool} {k:Nat} {env:Env} {A:Around} {ι ι':List Addr} {q q':S} {s s':Shared} {H H':Hp} {h:Heap}
theorem dp.made {c:String} {C e:Addr} {args:List Value} {h':Heap} {tk:Nat} (ha:lv hq k A env) (R:cC A env ι q s) (hc:G.xcl c=some C) (hm:Heap.MadeExcOf s.heap h' e (.ref C) args) :
  dp A env ι s c ι q { s with heap:=h',toks:=tk } (.ref e):=by
 haveI fsn:∀env'∈A.frames.getD [],∀L,env'.frame=some L->L∈kx A:=λenv' he L hf=>List.mem_filterMap.mpr ⟨env',he,hf⟩
 have frm:∀a∈kx A,∃o,s.heap.get? a=some o/\(∃es n,o.data= .dict es n)/\a∉ι/\G.hB.get? a=none:=λa hf=>by
  refine bS λY9 y9=> ?_
  obtain ⟨e',he,hf'⟩:=List.mem_filterMap.mp hf
  obtain ⟨_,L,o,h1,h2,h3,h4,h5⟩:=R.fs e' he
  refine y9 ?_
  obtain rfl:L=a:=Option.some.inj (h1.symm.trans hf')
  exact ⟨o,h2,h3,h4,h5⟩
 have get:∀a o,s.heap.get? a=some o->a∉kx A->(hideAll s.heap (kx A)).get? a=some o:=λa o e n=>hideAll_get _ e n
 have im:nE s.heap (hideAll s.heap (kx A)):=λa o e hmu=>⟨o.slots,get a o e λhf=>by
  refine bS λY9 y9=> ?_
  obtain ⟨o',e',⟨es,n,d⟩,_⟩:=frm a hf
  refine y9 ?_
  rw [e] at e';cases e';exact hmu (.inr (.inl ⟨es,n,d⟩))⟩
 haveI bs:(hideAll s.heap (kx A)).StaysIn h':=λb o e=>hm.keeps b o (of_hideAll _ e)
 haveI st:er ι q.H (hideAll s.heap (kx A)):=⟨λb o e=>get b o (R.st.keep b o e) (λhf=>by obtain ⟨_,_,_,_,n⟩:=frm b hf;rw [n] at e;cases e),R.st.len,R.st.nodup,R.st.fresh,
  λi a o e1 e2=>(R.st.obj i a o e1 e2).at (aaj _) im λo' e'=>get a o' e' λhf=>by obtain ⟨_,_,_,n,_⟩:=frm a hf;exact n (aaI e1)⟩
 refine bS λY9 y9=> ?_
 obtain ⟨fenv,rest,f1,f2,_⟩:=ha.fr
 haveI hfm:fenv∈A.frames.getD []:=by rw [f1];exact .head _
 obtain ⟨_,L,oL,g1,_⟩:=R.fs fenv hfm
 obtain ⟨t,ht,htn,ht'⟩:=hm.there
 refine y9 ?_
 have cellEx:∀c o v,s.heap.get? c=some o->o.data= .cell v->(hideAll s.heap (kx A)).get? c=some o:=λc o v e hd=>get c o e λhf=>by
  refine bS λY9 y9=> ?_
  obtain ⟨o',e',⟨es,n,d⟩,_⟩:=frm c hf
  refine y9 ?_
  rw [e] at e';cases e';rw [hd] at d;cases d
 refine ⟨aaj _,⟨e,C,hideAll s.heap (kx A),L,rfl,hc,f2.symm.trans g1,(.made bs ?_ ?_ _ _ (.ref t) ht rfl rfl rfl rfl rfl),st,?_,R.fs.stays hm.keeps,λa o e hW hf=>get a o e hf⟩,
  zL.of_stays hm.keeps,λa o e _=>⟨o.slots,hm.keeps a o e⟩,λ_ h=> .inl h,R.gens,R.os⟩
 ·cases q:(hideAll s.heap (kx A)).get? e with
  | none=>rfl
  | some o=>have:=of_hideAll _ q;rw [hm.new] at this;cases this
 ·haveI:∀fs:List Env,(∀e∈fs,e∈A.frames.getD [])->h'.FunFrames (hideAll s.heap (kx A)) fs:=λfs=>by
   induction fs with
   | nil=>intro _;trivial
   | cons f r ih =>
    intro hmem
    refine bS λY9 y9=> ?_
    obtain ⟨n1,L',o',n2,n3,⟨es,n,n4⟩,_⟩:=R.fs f (hmem f (.head _))
    refine y9 ?_
    exact ⟨n1,⟨L',o',n2,hideAll_none _ (fsn f (hmem f (.head _)) L' n2),hm.keeps _ _ n3,λvs q=>by rw [n4] at q;cases q⟩,ih λe he=>hmem e (.tail _ he)⟩
  exact this _ λe he=>he
 ·refine ⟨R.fr.kind,R.fr.glob,R.fr.blt,?_,?_,?_,R.fr.ndup,R.fr.dis,R.fr.fresh⟩
  ·obtain ⟨m,hn,hmm⟩:=R.fr.loc
   exact ⟨m,hn.keeps hm.keeps,λy v e e2=>let ⟨cv,a,b⟩:=hmm y v e e2;⟨cv,a,b.mono (aaj _) im⟩⟩
  ·intro y v e e2
   refine bS λY9 y9=> ?_
   obtain ⟨c,o,cv,h1,h2,h3,h4⟩:=R.fr.cel y v e e2
   refine y9 ?_
   exact ⟨c,o,cv,h1,cellEx c o _ h2 h3,h3,h4.mono (aaj _) im⟩
  ·intro p hp
   refine bS λY9 y9=> ?_
   obtain ⟨o,ov,h1,h2⟩:=R.fr.cells p hp
   refine y9 ?_
   exact ⟨o,ov,cellEx p.2 o _ h1 h2,h2⟩
noncomputable def fY {α:Type} (c:String):Cm α:=λq=> .exc c q
theorem eK (C:bF G) (hh:hq=true) {x:String} {a:Addr} {es:List Expr} {np cpos pos:Pos} {m:Cm (List V)} (hx:env.kindOf (Str.ofString x)=some .globalImplicit)
  (hv:nsIn G.K mainGlobals (Str.ofString x)=some (some (.ref a))) (hc:G.xcl x=some a) (ho:oh G.K a=true) (hd:(Str.ofString x==("__debug__" : Str))=false) (h1:AK hq k env es m) (hl:es.length<=5)
  (hp:(backTo cpos (starEach es env)).any (·.1)=false) (hlen:∀q vs q',m q= .ok vs q'->vs.length<=1000) :
  Ex hq k env (.Raise (some (.Call (.Name (Str.ofString x) np) es [] cpos)) none pos) (m.b λ_=>fY x):=by
 intro A ι q s ha R
 refine aP.of λQ E hQ=> ?_
 refine bS λY9 y9=> ?_
 obtain ⟨nm,qn,N,bs,bm,hdct,sx,sub,ab,col,dd,k0,k1,k2,k3,k5,mN,hC,_,hN,hni,T⟩:=HT C.X ho
 refine y9 ?_
 refine wpAny_Raise_call_subT (C:=a) (nm:=nm) (q:=qn) (N:=N) (bs:=bs) (bm:=bm) (hdct:=hdct) (sn:=sx) (sub:=sub) (ab:=ab) (col:=col) (dd:=dd) (k0:=k0) (k1:=k1) (k2:=k2) (k3:=k3) (k5:=k5) (mN:=mN)
  F.excBase_ValueError (T.hasType ∅) (ha.hd hh) hp hni (jR C R hx hv hd ⟨rfl,bZ hp ?_⟩)
 have h1':=h1 cpos A ι q s ha R
 cases hm:m q with
 | stuck=>rw [cA hm] at hQ;exact hQ.elim
 | exc c q1=>rw [hM hm] at hQ;rw [hm] at h1';exact h1' _ _ hQ
 | ok vs q1 =>
  rw [fT hm] at hQ
  rw [hm] at h1'
  refine h1' _ _ λι1 cvs s1 P1 hv1=>⟨rfl,by haveI:=hlen q vs q1 hm;rw [hv1.length,sizeLine_eq];exact bO 0xb000003e8a0011 this,P1.rel.st.keep _ _ hC,hN.keeps P1.rel.st.keep,T.keeps P1.rel.st.keep,λh' e hme=> ?_⟩
  exact hQ ι1 (.ref e) _ (P1.transX (dp.made (tk:=s1.toks) ha P1.rel hc hme))
end
section
variable {hq:Bool} {k:Nat} {env:Env} {A:Around} {ι ι':List Addr} {q q':S} {s s':Shared} {H H':Hp} {h:Heap}
def om (e C:Addr) (h:Heap):Prop:= ∃B fs,xT B fs e (.ref C) .none h
theorem om.hn {e C:Addr} {h:Heap} (hl:om e C h):rX (A.mark (some (.ref e))) h:=λv hv=>by
 obtain ⟨B,fs,y⟩:=hl
 cases y with
 | mk k n f oe vs a0 T oT ts he hc hd h0 h2=>exact ⟨e,oe,C,vs,(Option.some.inj hv).symm,he,hc,hd,h2⟩
theorem cC.mark {e C:Addr} (hl:om e C s.heap) (R:cC A env ι q s):cC (A.mark (some (.ref e))) env ι q s:=⟨R.st,R.fr,R.fs,R.gens,R.os,hl.hn⟩
theorem aR.unmark {e:Option Value} (R:cC A env ι q s) (P:aR (A.mark e) env ι s ι' q' s'):aR A env ι s ι' q' s':=⟨P.pre,⟨P.rel.st,P.rel.fr,P.rel.fs,P.rel.gens,P.rel.os,R.hn.imm (R.imm P.kp)⟩,P.kp,P.new⟩
theorem dp.caught {c:String} {ev:Value} {Q:Unit->Shared->Prop} {E:Value->Shared->Prop} (ha:lv hq k A env) (R:cC A env ι q s) (x:dp A env ι s c ι' q' s' ev)
  (hQ:∀e C s₃,ev= .ref e->G.xcl c=some C->om e C s₃.heap->aR A env ι s ι' q' s₃->Q () s₃) :
  wpAny G.M A (noteFrame ev env) (λ_ s₂=>wpAny G.M A (setFlight ev none) Q E s₂) E s':=by
 refine x.noted ha λe C B L s₂ he hf hc y g5 g6 g7 g8 z=> ?_
 subst he
 refine wf y λh₃ w up=> ?_
 have kk:B.StaysIn h₃:=by cases w with | mk k=>exact k
 have z':=z.at rfl hc hf (.fly _ w (.inl rfl)) g5 g6 g7 g8 up
 exact hQ e C _ rfl hc ⟨B,_,w⟩ ⟨z'.pre,⟨g5.stays kk,(g6.slots up).stays kk λ_ _ e=>e,g7.slots up,z'.gens,z'.os,R.hn.imm (R.imm' z'.up)⟩,⟨z'.size,z'.up,λa o e hW hf=>kk _ _ (g8 a o e hW hf)⟩,z'.new⟩
theorem xf {e C:Addr} {Q:Unit->Shared->Prop} {E:Value->Shared->Prop} (hl:om e C s.heap) (hQ:Q () s):wpAny G.M A (setFlight (.ref e) none) Q E s:=by
 obtain ⟨B,fs,y⟩:=hl
 cases y with
 | mk k n f oe vs a0 T oT ts h1 hc h3 _ _ h4 nT Te h5 h6 h7 =>
 unfold setFlight
 refine wpAny_bind (wpAny_field h1 h3 h4 ?_)
 rw [if_pos (show (Value.ref T != Value.none)=true from by simp)]
 refine wpAny_setField h5 h6 (Array.getElem?_eq_some_iff.mp h7).1 ?_
 show Q () { s with heap:=s.heap.update T (Obj.mapFields (·.setIfInBounds 3 .none)) }
 rw [Heap.update_setField_same s.heap T oT ts 3 .none h5 h6 h7]
 exact hQ
def xU (k:Nat) (env:Env) (hs:List ExceptHandler) (c:String) (m:Cm Fl):Prop :=
 ∀A ι q s e C,lv false k A env->cC A env ι q s->G.xcl c=some C->om e C s.heap ->
  match m q with
  | .ok f q'=> ∀Q E,(∀ι' b s',aR A env ι s ι' q' s'->vT ι' s'.heap f b->Q b s')->wpAny G.M A (handleBy (.ref e) env hs) Q E s
  | _=>True
theorem Ad {hs:List ExceptHandler} {c:String}:xU k env hs c .stk:=λA ι q s e C _ _ _ _=>trivial
noncomputable def zq (m:Cm Fl) (sel:String->Cm Fl):Cm Fl:=λq=>match m q with
 | .ok f q'=> .ok f q'
 | .exc c q'=>(match sel c q' with | .ok f q''=> .ok f q'' | _=> .stuck)
 | .stuck=> .stuck
theorem lv.any (ha:lv hq k A env):lv false k A env:=⟨⟨(λh=>by cases h),ha.depth,ha.units⟩,ha.fr⟩
theorem CZ {body:List Stmt} {h0:ExceptHandler} {hs:List ExceptHandler} {pos:Pos} {m:Cm Fl} {sel:String->Cm Fl} (h1:CR hq k env body m) (h2:∀c,xU k env (h0::hs) c (sel c)) :
  Ex hq k env (.Try body (h0::hs) [] [] pos) (zq m sel):=by
 intro A ι q s ha R
 refine aP.of λQ E hQ=>wpAny_Try_except ?_
 have h1':=h1 A ι q s ha R
 unfold zq at hQ
 cases hm:m q with
 | stuck=>rw [hm] at hQ;exact hQ.elim
 | ok f q1 =>
  rw [hm] at hQ h1'
  refine h1' _ _ λι1 cf s1 P1 hf=> ?_
  have:=hQ ι1 cf s1 P1 hf
  cases f with
  | next=>rw [show cf= .next from hf] at this ⊢;exact wpAny_execs_nil this
  | ret v=>obtain ⟨cv,rfl,_⟩:=hf;exact this
 | exc c q1 =>
  rw [hm] at hQ h1'
  dsimp only at hQ
  refine h1' _ _ λι1 ev s1 x=> ?_
  refine x.caught ha R λe C s3 he hc hl P=> ?_
  subst he
  haveI h2':=h2 c A ι1 q1 s3 e C ha.any P.rel hc hl
  cases hs:sel c q1 with
  | stuck=>rw [hs] at hQ;exact hQ.elim
  | exc c q2=>rw [hs] at hQ;exact hQ.elim
  | ok f q2 =>
   rw [hs] at hQ h2'
   exact h2' Q E λι2 b s4 P4 hf=>hQ ι2 b s4 (P.trans P4) hf
theorem DL {e:Value} (ha:lv false k A env):lv false k (A.mark (some e)) env:=⟨⟨(λh=>by cases h),ha.depth,ha.units⟩,ha.fr⟩
theorem pv (C:bF G) {e a b:Addr} {r:Bool} (R:cC A env ι q s) (hl:om e a s.heap) (hx:exmOne G.K (.ref a) (.ref b)=some r) {Q:Bool->Shared->Prop} {E:Value->Shared->Prop} (hQ:Q r s) :
  wpAny G.M A (excMatches (.ref e) (.ref b)) Q E s:=by
 obtain ⟨B,fs,y⟩:=hl
 cases y with
 | mk k n f oe vs a0 T oT ts h1 h2 =>
 haveI X:=C.X.keeps R.st.keep
 refine exm_one (M:=G.M) (h:=s.heap) X ?_ hx A Q E s (λ_ _ e=>e) hQ
 rw [<- h2]
 exact (Looks.ld h1).andThen .now
theorem GM (C:bF G) {x c:String} {np pos:Pos} {a b:Addr} {name:Option Str} {b₀:Stmt} {suite:List Stmt} {rest:List ExceptHandler} {m:Cm Fl} (hx:env.kindOf (Str.ofString x)=some .globalImplicit)
  (hv:nsIn G.K mainGlobals (Str.ofString x)=some (some (.ref b))) (hd:(Str.ofString x==("__debug__" : Str))=false) (hc:G.xcl c=some a) (hm:exmOne G.K (.ref a) (.ref b)=some false) (h1:xU k env rest c m) :
  xU k env (.ExceptHandler (some (.Name (Str.ofString x) np)) name (b₀::suite) pos::rest) c m:=by
 intro A ι q s e a' ha R hc' hl
 obtain rfl:a=a':=Option.some.inj (hc.symm.trans hc')
 haveI h1':=h1 A ι q s e a ha R hc' hl
 cases hmq:m q with
 | stuck=>trivial
 | exc c q1=>trivial
 | ok f q1 =>
  rw [hmq] at h1'
  intro Q E hQ
  have R':cC (A.mark (some (.ref e))) env ι q s:=R.mark hl
  refine wpAny_handleBy_cons (codeAny_handlers_test (jR C R' hx hv hd (pv C R' hl hm ?_))) (by intro q;cases q)
  exact h1' Q E hQ
theorem AN (C:bF G) {x c:String} {np pos:Pos} {a b:Addr} {b₀:Stmt} {suite:List Stmt} {rest:List ExceptHandler} {m:Cm Fl} (hx:env.kindOf (Str.ofString x)=some .globalImplicit)
  (hv:nsIn G.K mainGlobals (Str.ofString x)=some (some (.ref b))) (hd:(Str.ofString x==("__debug__" : Str))=false) (hc:G.xcl c=some a) (hm:exmOne G.K (.ref a) (.ref b)=some true) (h1:CR false k env (b₀::suite) m) :
  xU k env (.ExceptHandler (some (.Name (Str.ofString x) np)) none (b₀::suite) pos::rest) c m:=by
 intro A ι q s e a' ha R hc' hl
 obtain rfl:a=a':=Option.some.inj (hc.symm.trans hc')
 have R':cC (A.mark (some (.ref e))) env ι q s:=R.mark hl
 haveI h1':=h1 (A.mark (some (.ref e))) ι q s (DL ha) R'
 cases hmq:m q with
 | stuck=>trivial
 | exc c q1=>trivial
 | ok f q1 =>
  rw [hmq] at h1'
  intro Q E hQ
  refine wpAny_handleBy_cons (codeAny_handlers_test (jR C R' hx hv hd (pv C R' hl hm ?_))) (by intro q;cases q)
  refine codeAny_handlers_suite (xf hl ?_)
  exact h1' _ _ λι' b s' P hf=>hQ ι' b s' (P.unmark R) hf
end
noncomputable def aX:List String->List V->bk
 | p::ps,v::vs=>upd (aX ps vs) p v
 | _,_=>λ_=>none
noncomputable def ie (ps:List String) (m:Cm Fl):Fc:=λvs H=>if vs.length=ps.length then (match m ⟨aX ps vs,H⟩ with
 | .ok (.ret v) q=> .ok v q.H
 | .ok .next q=> .ok .none q.H
 | .exc c q=> .exc c q.H
 | .stuck=> .stuck) else .stuck
section
variable {hq:Bool} {k:Nat} {env:Env} {A:Around} {ι ι':List Addr} {q q':S} {s s':Shared} {H H':Hp} {h:Heap}
noncomputable def rZ (ps:List String) (vs:List Value):List (Str×Value):=(ps.map Str.ofString).zip vs
theorem oz {kindOf:Str->Option NameKind}:∀(ps:List String) (vs:List V) (cvs:List Value) (m:Str->Option Value),ps.Nodup->aM ι h vs cvs->vs.length=ps.length ->
  (∀x v,aX ps vs x=some v->kindOf (Str.ofString x)=some .local-> ∃cv,bindL kindOf (rZ ps cvs) m (Str.ofString x)=some cv/\aL ι h v cv) /\
  (∀x v,aX ps vs x=some v->kindOf (Str.ofString x)≠some .local-> ∃cv,bindC kindOf (rZ ps cvs) m (Str.ofString x)=some cv/\aL ι h v cv) /\
  (∀x,x∉ps.map Str.ofString->bindL kindOf (rZ ps cvs) m x=m x/\bindC kindOf (rZ ps cvs) m x=m x)/\ ∀x v,aX ps vs x=some v->x∈ps
 | [],vs,cvs,m,_,hv,hl=>by
  haveI:vs=[]:=List.length_eq_zero_iff.mp hl
  subst this
  exact ⟨λx v e=>by simp [aX] at e,λx v e=>by simp [aX] at e,λx _=>⟨rfl,rfl⟩,λx v e=>by simp [aX] at e⟩
 | p::ps,[],cvs,m,_,hv,hl=>by simp at hl
 | p::ps,v::vs,cvs,m,hn,z5,hl=>by
  obtain ⟨cv,cvs',e,r1,r2⟩:=z5
  subst e
  rw [aaP] at hn
  haveI hl':vs.length=ps.length:=by simpa using hl
  have hp:Str.ofString p∉ps.map Str.ofString:=λhm=>by
   obtain ⟨y,hy,e⟩:=aae.mp hm
   exact hn.1 (fJ e▸hy)
  have step:rZ (p::ps) (cv::cvs')=(Str.ofString p,cv)::rZ ps cvs':=rfl
  have hin:∀x v',aX (p::ps) (v::vs) x=some v'->(x=p/\v'=v)\/(x≠p/\aX ps vs x=some v'):=λx v' e=>m5 e
  have B:=λm'=>oz (kindOf:=kindOf) ps vs cvs' m' hn.2 r2 hl'
  refine ⟨λx v' e1 e2=> ?_,λx v' e1 e2=> ?_,λx hx=> ?_,λx v' e1=> ?_⟩
  ·rcases hin x v' e1 with ⟨rfl,rfl⟩ | ⟨hne,e⟩
   ·rw [step];unfold bindL;rw [if_pos e2,((B _).2.2.1 _ hp).1];exact ⟨cv,if_pos rfl,r1⟩
   ·rw [step];unfold bindL;exact (B _).1 x v' e e2
  ·rcases hin x v' e1 with ⟨rfl,rfl⟩ | ⟨hne,e⟩
   ·rw [step];unfold bindC;rw [if_neg e2,((B _).2.2.1 _ hp).2];exact ⟨cv,if_pos rfl,r1⟩
   ·rw [step];unfold bindC;exact (B _).2.1 x v' e e2
  ·rw [aas,aah,not_or] at hx
   rw [step]
   unfold bindL bindC
   refine ⟨((B _).2.2.1 x hx.2).1.trans ?_,((B _).2.2.1 x hx.2).2.trans ?_⟩
   ·split<;>first | exact if_neg hx.1 | rfl
   ·split<;>first | exact if_neg hx.1 | rfl
  ·rcases hin x v' e1 with ⟨rfl,rfl⟩ | ⟨hne,e⟩
   ·exact .head _
   ·exact .tail _ ((B (λ_=>none)).2.2.2 x v' e)
theorem xT.tail {B:Heap} {fs:List Env} {e:Addr} {C fl:Value} {h:Heap} {en:Env} (x:xT B (en::fs) e C fl h):xT B fs e C fl h:=by
 cases x with
 | mk k n f oe vs a0 T oT ts he hc hd h0 h2 h1 nT Te hT dT h3=>exact ⟨k,n,f.2.2,oe,vs,a0,T,oT,ts,he,hc,hd,h0,h2,h1,nT,Te,hT,dT,h3⟩
theorem dp.leave {c:String} {ev:Value} {outer:List Env} {R:Result->Shared->Prop} {E:Value->Shared->Prop} {s₁:Shared} {fA:Around} (hf:fA.frames=some (env::outer)) (hA:A.frames=some outer) (x:dp fA env ι s₁ c ι' q' s' ev)
  (st:s.heap.StaysIn s₁.heap) (own0:∀a∈own env,s.heap.get? a=none) (frm:env.frame=some env.locals)
  (hR:∀s'',oi A ι s c ι' q'.H s'' ev->R (.error ev) s''):wpAny G.M fA (leaving env ev) (λ_ s''=>R (.error ev) s'') E s':=by
 refine bS λY9 y9=> ?_
 obtain ⟨e,C,B,L,rfl,h2,h3,fl,h5,h6,h7,h8⟩:=x.ex
 refine y9 ?_
 have hfs:fA.frames.getD []=env::outer:=by rw [hf];rfl
 have hAs:A.frames.getD []=outer:=by rw [hA];rfl
 haveI hL:L=env.locals:=Option.some.inj (h3.symm.trans frm)
 have hfr:kx fA=env.locals::kx A:=by
  show (fA.frames.getD []).filterMap (·.frame)=_
  rw [hfs,List.filterMap_cons,frm]
  show _=env.locals::(A.frames.getD []).filterMap (·.frame)
  rw [hAs]
 rw [hfs] at fl h7
 have nf:∀a o,s.heap.get? a=some o->a∉ι->a∉kx A->a∉own env++ι/\a∉kx fA:=λa o e hi hfa=>by
  have ho:a∉own env:=λho=>by rw [own0 a ho] at e;cases e
  exact ⟨λhm=>(aan.mp hm).elim ho hi,λhm=>by
   rw [hfr] at hm
   rcases aah.mp hm with rfl | hm
   ·exact ho (.head _)
   ·exact hfa hm⟩
 have exB:∀a o,s.heap.get? a=some o->a∉ι->a∉kx A->B.get? a=some o:=λa o e hi hfa=>h8 a o (st a o e) (nf a o e hi hfa).1 (nf a o e hi hfa).2
 haveI gZ:∀h'',xT B outer e (.ref C) .none h''->s'.heap.UpToSlots h''->R (.error (.ref e)) { s' with heap:=h'' }:=λh'' fw up=>by
  have kk:B.StaysIn h'':=by cases fw with | mk k=>exact k
  have fs'':nz outer ι' h'':=λenv' he=>(h7.slots up) env' (.tail _ he)
  refine hR _ ⟨x.pre,⟨e,C,B,rfl,h2,by rw [hAs];exact fw,h5,by rw [hAs];exact fs'',exB⟩,λa o ea=> ?_,λa o ea hi=> ?_,λa ha=> ?_,x.gens,x.os⟩
  ·by_cases h2:a∈ι
   ·refine bS λY9 y9=> ?_
    obtain ⟨i,hi⟩:=List.mem_iff_getElem?.mp h2
    have hi':=getElem?_prefix x.pre hi
    obtain ⟨oa,hoa⟩:∃oa,q'.H[i]? = some oa:=⟨_,aao (h5.len▸(aab.mp hi').1)⟩
    obtain ⟨o',e'⟩:=(h5.obj i a oa hi' hoa).there
    refine y9 ?_
    exact ⟨o',kk _ _ e'⟩
   ·by_cases h3:a∈kx A
    ·obtain ⟨o',e',_⟩:=dI (A:=A) (by rw [hAs];exact fs'') h3;exact ⟨o',e'⟩
    ·exact ⟨o,kk _ _ (exB a o ea h2 h3)⟩
  ·by_cases h3:a∈kx A
   ·haveI ho:a∉own env:=λho=>by rw [own0 a ho] at ea;cases ea
    refine bS λY9 y9=> ?_
    obtain ⟨sl,e1⟩:=x.up a o (st a o ea) λhm=>(aan.mp hm).elim ho hi
    obtain ⟨o',e',es,n,d⟩:=dI (A:=A) (ι:=ι') (h:=s'.heap) (λenv' he=>h7 env' (by rw [hAs] at he;exact .tail _ he)) h3
    rw [e1] at e';cases e'
    obtain ⟨sl2,e2⟩:=up a _ e1 λvs q=>by rw [d] at q;cases q
    refine y9 ?_
    exact ⟨sl2,e2⟩
   ·exact ⟨o.slots,kk _ _ (exB a o ea hi h3)⟩
  ·rcases x.new a ha with h1 | h1
   ·exact .inl h1
   ·refine .inr ?_
    cases e:s.heap.get? a with
    | none=>rfl
    | some o=>rw [st a o e] at h1;cases h1
 have down:∀h'',xT B (env::outer) e (.ref C) (rawInt L) h''->s'.heap.UpToSlots h''->wpAny G.M fA (setFlight (.ref e) none) (λ_ s''=>R (.error (.ref e)) s'') E { s' with heap:=h'' }:=λh'' y u =>
  wf (s:={ s' with heap:=h'' }) y λh3 w u2=>gZ h3 w.tail (u.trans u2)
 unfold leaving
 cases fl with
 | made k n f oe vs a0 he hc hd h0 h1 h2=>exact wpAny_bind (we hf f h3 he k n hd h0 h1 h2 λh' y u=>down h' (hc▸y) u)
 | fly fl y hfl=>exact wpAny_bind (yr hf h3 y hfl down)
structure AL (K:Frag) (f:Addr) (fd:FuncData) (ps:List String) (body:List Stmt):Prop where
 at':∃oc od sl,K.lookup f=some ⟨oc,od,.func fd,sl⟩
 code:codeIn K fd.code fd.qualname=true
 body:fd.body= .stmts body
 clo:fd.closure=[]
 glob:fd.globals=mainGlobals
 blt:fd.builtins=builtinsNs
 bind:∀vals,vals.length=ps.length->bindArgs fd ⟨vals,[]⟩=pure (rZ ps vals)
 kinds:∀x∈ps,fd.scope.names.lookup (Str.ofString x)=some .local\/fd.scope.names.lookup (Str.ofString x)=some .cell
 nd:ps.Nodup
 ndc:((cellsFrom 0 fd.scope.names []).map (·.1)).Nodup
 co:fd.scope.isCoroutine=false
 gen:fd.scope.isGenerator=false
 kd:fd.scope.kind= .function
theorem b7.of (C:bF G) {f:Addr} {fd:FuncData} {ps:List String} {body:List Stmt} {m:Cm Fl} (Z:AL G.K f fd ps body) (hm:∀L,CR hq k (callEnvC fd L f) body m):b7 hq (k+1) f (ie ps m):=by
 intro A ι H s vs cvs ha ⟨fs,hfs⟩ S0 F0 hgens hos hn0 hv
 have hfs':A.frames.getD []=fs:=by rw [hfs];rfl
 unfold ie
 by_cases hlen:vs.length=ps.length
 ·rw [if_pos hlen]
  haveI hlc:cvs.length=ps.length:=hv.length.trans hlen
  refine bS λY9 y9=> ?_
  obtain ⟨oc,od,sl,hK⟩:=Z.at'
  refine y9 ?_
  have X:=C.X.keeps S0.keep
  have key:∀R:Result->Shared->Prop,(∀s₁,InCallC s (callEnvC fd s.heap.objs.size f).locals (bindL (callEnvC fd s.heap.objs.size f).kindOf (rZ ps cvs) λ_=>none) (callEnvC fd s.heap.objs.size f).cells
    (bindC (callEnvC fd s.heap.objs.size f).kindOf (rZ ps cvs) λ_=>none) s₁ ->
   wpAny (model G.prog G.w) (A.deeper (callEnvC fd s.heap.objs.size f)) (execs body (callEnvC fd s.heap.objs.size f)) (λf s'=>R (.ok (.ret (match f with | .ret v=>v | _=> .none))) s')
    (λe s'=>wpAny (model G.prog G.w) (A.deeper (callEnvC fd s.heap.objs.size f)) (leaving (callEnvC fd s.heap.objs.size f) e) (λ_ s''=>R (.error e) s'') (λe' s''=>R (.error e') s'') s') s₁) ->
    codeAny G.M A (.call (.ref f) ⟨cvs,[]⟩) R s:=λR hh=>by
   refine codeAny_call_cells (fd:=fd) (body:=body) (by have:=ha.depth;show A.depth<1000;exact bP 0x3e8a01000320a191c03d0c011 this) (X _ _ hK) rfl (C.lim.keeps S0.keep) (codeRec_of X Z.code) Z.body (Z.bind cvs hlc) Z.clo (λx hx=> ?_) hh Z.co Z.gen Z.kd
   have:x.1∈ps.map Str.ofString:=(List.of_mem_zip hx).1
   obtain ⟨y,hy,e⟩:=aae.mp this
   rw [<- e]
   rcases Z.kinds y hy with h1 | h1
   ·exact .inl h1
   ·exact .inr ⟨h1,cellsFrom_some _ _ _ (.inl h1)⟩
  have start:∀s₁,InCallC s (callEnvC fd s.heap.objs.size f).locals (bindL (callEnvC fd s.heap.objs.size f).kindOf (rZ ps cvs) λ_=>none) (callEnvC fd s.heap.objs.size f).cells
    (bindC (callEnvC fd s.heap.objs.size f).kindOf (rZ ps cvs) λ_=>none) s₁ ->
    lv hq k (A.deeper (callEnvC fd s.heap.objs.size f)) (callEnvC fd s.heap.objs.size f)/\cC (A.deeper (callEnvC fd s.heap.objs.size f)) (callEnvC fd s.heap.objs.size f) ι ⟨aX ps vs,H⟩ s₁/\s.heap.StaysIn s₁.heap /\
     ∀a∈own (callEnvC fd s.heap.objs.size f),s.heap.get? a=none:=λs₁ I=>by
   have st:s.heap.StaysIn s₁.heap:=I.toInCall.keep
   have ab:∀a∈own (callEnvC fd s.heap.objs.size f),s.heap.get? a=none:=λa ha=>by
    refine aaO ?_
    rcases aah.mp ha with rfl | ha
    ·exact aaL _
    ·obtain ⟨p,hp,rfl⟩:=aae.mp ha
     exact Nat.le_of_lt (I.above p.1 p.2 hp)
   have dis:∀a∈own (callEnvC fd s.heap.objs.size f),a∉ι/\G.hB.get? a=none:=λa ha=>by
    have n:=ab a ha
    refine ⟨λhi=> ?_,?_⟩
    ·obtain ⟨o,e,_⟩:=er.mut (q:=⟨λ_=>none,H⟩) S0 hi;rw [n] at e;cases e
    ·cases e:G.hB.get? a with
     | none=>rfl
     | some o=>rw [S0.keep a o e] at n;cases n
   refine bS λY9 y9=> ?_
   obtain ⟨hh,tk,es⟩:=I.toInCall.same
   have hv1:=hv.mono (aaj ι) (nE.of_stays st)
   obtain ⟨bl,_,_,mem⟩:=oz (kindOf:=(callEnvC fd s.heap.objs.size f).kindOf) ps vs cvs (λ_=>none) Z.nd hv1 hlen
   obtain ⟨_,bc,_,_⟩:=oz (kindOf:=(callEnvC fd s.heap.objs.size f).kindOf) ps vs cvs (λ_=>none) Z.nd hv1 hlen
   refine y9 ?_
   haveI cellAt:∀p∈(callEnvC fd s.heap.objs.size f).cells,(callEnvC fd s.heap.objs.size f).cells.lookup p.1=some p.2:=λp hp=>by
    refine lookup_of_mem_nodup ?_ hp
    show ((cellsFrom (s.heap.objs.size+1) fd.scope.names []).map (·.1)).Nodup
    rw [cellsFrom_names fd.scope.names (s.heap.objs.size+1) 0 [] [] rfl]
    exact Z.ndc
   refine ⟨⟨⟨ha.hd,by have:=ha.depth;show A.depth+1+3*k<=800;exact bP 0x320a103d190cc0000320a191c03d0c011 this,by have:=ha.units;show A.units+3+50*k<=9000;exact bP 0x2328a132d390cc0002328a191c32d0c011 this⟩,?_⟩,⟨S0.stays st,?_,?_,?_,?_,hn0.imm (.of_stays st)⟩,st,ab⟩
   ·exact ⟨callEnvC fd s.heap.objs.size f,fs,Around.frames_deeper hfs,rfl,Z.gen,Z.co,Z.blt,Z.glob⟩
   ·refine ⟨Z.kd,Z.glob,Z.blt,⟨_,I.toInCall.ns,bl⟩,λx v e1 e2=> ?_,λp hp=> ?_,?_,λa ha=>(dis a ha).1,λa ha=>(dis a ha).2⟩
    ·refine bS λY9 y9=> ?_
     obtain ⟨cv,c1,c2⟩:=bc x v e1 (by rcases e2 with e2 | e2<;>rw [e2]<;>decide)
     haveI hk:fd.scope.names.lookup (Str.ofString x)=some .cell:=by
      rcases Z.kinds x (mem x v e1) with h1 | h1
      ·haveI e3:(callEnvC fd s.heap.objs.size f).kindOf (Str.ofString x)=some .local:=h1
       rw [e3] at e2;rcases e2 with e2 | e2<;>cases e2
      ·exact h1
     obtain ⟨c,hc⟩:=aaR.mp (cellsFrom_some fd.scope.names (s.heap.objs.size+1) [] (.inl hk))
     obtain ⟨o,ho,hd⟩:=I.cell _ _ hc
     refine y9 ?_
     rw [c1] at hd
     exact ⟨c,o,cv,hc,ho,hd,c2⟩
    ·obtain ⟨o,ho,hd⟩:=I.cell _ _ (cellAt p hp)
     exact ⟨o,_,ho,hd⟩
    ·exact aaY.mpr I.apart
   ·show nz ((A.deeper (callEnvC fd s.heap.objs.size f)).frames.getD []) ι s₁.heap
    rw [Around.frames_deeper hfs]
    intro env' he
    rcases aah.mp he with rfl | he
    ·refine bS λY9 y9=> ?_
     obtain ⟨o,es',ep,ho,hd,_⟩:=I.toInCall.ns
     refine y9 ?_
     exact ⟨by rw [show (callEnvC fd s.heap.objs.size f).scope.kind= .function from Z.kd];decide,_,o,rfl,ho,⟨es',ep,hd⟩,(dis _ (.head _)).1,(dis _ (.head _)).2⟩
    ·rw [hfs'] at F0;exact F0.stays st env' he
   ·rw [es];exact hgens
   ·rw [es];exact hos
  have back:∀ {s₁ ι' q' s'},aR (A.deeper (callEnvC fd s.heap.objs.size f)) (callEnvC fd s.heap.objs.size f) ι s₁ ι' q' s'->s.heap.StaysIn s₁.heap->(∀a∈own (callEnvC fd s.heap.objs.size f),s.heap.get? a=none) ->
    s6 A ι s ι' q'.H s':=λ{s₁ ι' q' s'} P st ab=>by
   have nf:∀a o,s.heap.get? a=some o->a∉ι->a∉own (callEnvC fd s.heap.objs.size f)++ι:=λa o e hi hm=>(aan.mp hm).elim (λho=>by rw [ab a ho] at e;cases e) hi
   refine ⟨P.pre,P.rel.st,λenv' he=> ?_,⟨λa o e=>P.kp.size a o (st a o e),λa o e hi=>P.kp.up a o (st a o e) (nf a o e hi),λa o e hi hf=>P.kp.ex a o (st a o e) (nf a o e hi) λhm=> ?_⟩,λa ha=> ?_,P.rel.gens,P.rel.os⟩
   ·have:=P.rel.fs
    rw [Around.frames_deeper hfs] at this
    rw [hfs'] at he
    exact this env' (.tail _ he)
   ·unfold kx at hm hf
    rw [Around.frames_deeper hfs] at hm
    rw [hfs'] at hf
    rcases aah.mp hm with rfl | hm
    ·have:s.heap.get? s.heap.objs.size=some o:=e
     rw [aaO (aaL _)] at this;cases this
    ·exact hf hm
   ·rcases P.new a ha with h1 | h1
    ·exact .inl h1
    ·refine .inr ?_
     cases e:s.heap.get? a with
     | none=>rfl
     | some o=>rw [st a o e] at h1;cases h1
  cases hmm:m ⟨aX ps vs,H⟩ with
  | stuck=>trivial
  | ok fl q1 =>
   cases fl with
   | next =>
    intro R hR
    refine key R λs₁ I=> ?_
    refine bS λY9 y9=> ?_
    obtain ⟨ha',R',st,ab⟩:=start s₁ I
    refine y9 ?_
    haveI h1:=hm s.heap.objs.size _ _ _ _ ha' R'
    rw [hmm] at h1
    refine h1 _ _ λι' cf s' P hf=> ?_
    rw [show cf= .next from hf]
    exact hR ι' .none s' (back P st ab) rfl
   | ret v =>
    intro R hR
    refine key R λs₁ I=> ?_
    refine bS λY9 y9=> ?_
    obtain ⟨ha',R',st,ab⟩:=start s₁ I
    refine y9 ?_
    haveI h1:=hm s.heap.objs.size _ _ _ _ ha' R'
    rw [hmm] at h1
    refine h1 _ _ λι' cf s' P hf=> ?_
    obtain ⟨cv,rfl,hv⟩:=hf
    exact hR ι' cv s' (back P st ab) hv
  | exc c q1 =>
   intro R hR
   refine key R λs₁ I=> ?_
   refine bS λY9 y9=> ?_
   obtain ⟨ha',R',st,ab⟩:=start s₁ I
   refine y9 ?_
   haveI h1:=hm s.heap.objs.size _ _ _ _ ha' R'
   rw [hmm] at h1
   refine h1 _ _ λι' ev s' x=> ?_
   exact x.leave (A:=A) (Around.frames_deeper hfs) hfs st ab rfl λs'' y=>hR ι' ev s'' y
 ·rw [if_neg hlen];trivial
end
theorem GZ {d k0 k:Nat} (h:d+3*k<=800) (q:k0<k):d+1+3*k0<=800:=by
 rw [Nat.add_assoc];exact aam (Nat.add_le_add_left (aam (Nat.le_of_eq (Nat.add_comm _ _)) (aam (Nat.add_le_add_left (show 1<=3 by decide) _) (Nat.mul_le_mul_left 3 (Nat.succ_le_of_lt q)))) d) h
theorem HJ {d k0 k:Nat} (h:d+50*k<=9000) (q:k0<k):d+(1+3*0)+50*k0<=9000:=by
 rw [Nat.add_assoc];exact aam (Nat.add_le_add_left (aam (Nat.le_of_eq (Nat.add_comm _ _)) (aam (Nat.add_le_add_left (show 1<=50 by decide) _) (Nat.mul_le_mul_left 50 (Nat.succ_le_of_lt q)))) d) h
section
variable {hq:Bool} {k:Nat} {env:Env} {A:Around} {ι ι':List Addr} {q q':S} {s s':Shared} {H H':Hp} {h:Heap}
noncomputable def mG (c:String) (F:Fc) (vs:List V):Cm V:=λq=>match F (.inst c q.H.length::vs) (q.H++[.flds []]) with
 | .ok .none H'=> .ok (.inst c q.H.length) ⟨q.l,H'⟩
 | .ok _ _=> .stuck
 | .exc c' H'=> .exc c' ⟨q.l,H'⟩
 | .stuck=> .stuck
theorem aL.none_of {cv:Value} (x:aL ι h .none cv):cv= .none:=x
theorem s6.frames {A':Around} (e:A'.frames=A.frames) (x:s6 A' ι s ι' H' s'):s6 A ι s ι' H' s' :=
 ⟨x.pre,x.st,by rw [<- e];exact x.fs,by haveI:=x.kp;unfold kx at *;rw [<- e];exact this,x.new,x.gens,x.os⟩
theorem oi.frames {A':Around} {c:String} {ev:Value} (e:A'.frames=A.frames) (x:oi A' ι s c ι' H' s' ev):oi A ι s c ι' H' s' ev :=
 ⟨x.pre,by haveI:=x.ex;unfold kx at *;rw [<- e];exact this,x.size,x.up,x.new,x.gens,x.os⟩
theorem GS (C:bF G) {c:String} {a fI:Addr} {F:Fc} {k0:Nat} (hc:G.cls c=some a) (hm:makesIn G.K a=true) (hi:findIn G.K (.ref a) "__init__" = some (some (.ref fI))) (hf:typeIn G.K (.ref fI)=some (.type "function"))
  (hF:b7 hq k0 fI F) (hk:k0<k) (ha:lv hq k A env) (R:cC A env ι q s) {vs:List V} {cvs:List Value} (hv:aM ι s.heap vs cvs) :
  aP A env ι s (mG c F vs q) (aL) (λQ E s=>codeAny G.M A (.call (.ref a) ⟨cvs,[]⟩) (zx Q E) s):=by
 haveI X:=C.X.keeps R.st.keep
 have st:s.heap.StaysIn ((s.heap.push emptyDict).push (instObj a s.heap.objs.size)):=λb o e=>aal _ (aal _ e)
 have nw:s.heap.get? s.heap.objs.size=none:=aaO (aaL _)
 have gd:((s.heap.push emptyDict).push (instObj a s.heap.objs.size)).get? s.heap.objs.size=some emptyDict:=by heap_get
 have gi:((s.heap.push emptyDict).push (instObj a s.heap.objs.size)).get? (s.heap.objs.size+1)=some (instObj a s.heap.objs.size):=by heap_get
 have P1:aR A env ι s (ι++[s.heap.objs.size]) { q with H:=q.H++[.flds []] } { s with heap:=(s.heap.push emptyDict).push (instObj a s.heap.objs.size),toks:=s.toks } :=
  aR.alloc R st nw ⟨[],0,gd,rfl⟩
 have vi:∀ {ι' h'},(ι++[s.heap.objs.size])<+:ι'->nE ((s.heap.push emptyDict).push (instObj a s.heap.objs.size)) h'->aL ι' h' (.inst c q.H.length) (.ref (s.heap.objs.size+1)):=λ{ι' h'} hp him =>
  aL.mono (v:= .inst c q.H.length) hp him ⟨s.heap.objs.size,s.heap.objs.size+1,a,_,by rw [<- R.st.len];simp,hc,rfl,gi,rfl,rfl,rfl⟩
 have hu:(A.under (.builtin "type.__call__" ⟨.ref a::cvs,[]⟩)).frames=A.frames:=rfl
 have hr:=hF (A.under (.builtin "type.__call__" ⟨.ref a::cvs,[]⟩)) (ι++[s.heap.objs.size]) (q.H++[.flds []]) { s with heap:=(s.heap.push emptyDict).push (instObj a s.heap.objs.size),toks:=s.toks } (.inst c q.H.length::vs) (.ref (s.heap.objs.size+1)::cvs)
  ⟨ha.hd,GZ ha.depth hk,HJ ha.units hk⟩ (let ⟨fenv,rest,h1,_⟩:=ha.fr;⟨_,h1⟩) P1.rel.st P1.rel.fs P1.rel.gens P1.rel.os P1.rel.hn
  (og (vi (aaj _) (.refl _)) (hv.mono P1.pre (nE.of_stays st)))
 have core:∀R':Result->Shared->Prop,codeAny G.M (A.under (.builtin "type.__call__" ⟨.ref a::cvs,[]⟩)) (.call (.ref fI) ⟨.ref (s.heap.objs.size+1)::cvs,[]⟩) (InitBack (s.heap.objs.size+1) R') { s with heap:=(s.heap.push emptyDict).push (instObj a s.heap.objs.size),toks:=s.toks } ->
   codeAny G.M A (.call (.ref a) ⟨cvs,[]⟩) R' s:=λR' z=>by
  obtain ⟨hh,g,d,t,os⟩:=s
  exact make_core (makes_of X hm) (looks_findIn X hi) (λself=>bind_fn X self hf) (.inl rfl) z
 unfold mG
 cases hFv:F (.inst c q.H.length::vs) (q.H++[.flds []]) with
 | stuck=>trivial
 | ok v H' =>
  rw [hFv] at hr
  cases v<;>try trivial
  intro Q E hQ
  refine core _ (hr _ λι' cv s' c r=> ?_)
  rw [aL.none_of r]
  have P2:=aR.ofC P1.rel (s6.frames hu c)
  exact ⟨rfl,hQ ι' _ s' (P1.trans P2) (vi P2.pre (P1.rel.imm P2.kp))⟩
 | exc c' H' =>
  rw [hFv] at hr
  intro Q E hQ
  refine core _ (hr _ λι' ev s' x=> ?_)
  exact hQ ι' ev s' (P1.transX (dp.ofC (q:={ q with H:=q.H++[.flds []] }) ha P1.rel (oi.frames hu x)))
theorem wH (C:bF G) {x:String} {a fI:Addr} {F:Fc} {k0:Nat} {es:List Expr} {p pos:Pos} {m:Cm (List V)} (hx:env.kindOf (Str.ofString x)=some .globalImplicit)
  (hv:nsIn G.K mainGlobals (Str.ofString x)=some (some (.ref a))) (hkeep:keepIn G.K (.ref a)=true) (hd:(Str.ofString x==("__debug__" : Str))=false) (hc:G.cls x=some a) (hm:makesIn G.K a=true)
  (hi:findIn G.K (.ref a) "__init__" = some (some (.ref fI))) (hf:typeIn G.K (.ref fI)=some (.type "function")) (hF:b7 hq k0 fI F) (hk:k0<k) (h1:AK hq k env es m)
  (hp:(backTo pos (starEach es env)).any (·.1)=false) :
  Ev hq k env (.Call (.Name (Str.ofString x) p) es [] pos) (m.b λvs=>mG x F vs):=by
 intro A ι q s ha R
 refine (aP.b (T':=λvs Q E s₁=>G.K.In s₁.heap/\codeAny G.M A (.call (.ref a) ⟨vs,[]⟩) (zx Q E) s₁) (h1 pos A ι q s ha R) λa' q' ι' b s' _ P hv =>
  (GS C hc hm hi hf hF hk ha P.rel hv).imp λQ E z=>⟨C.X.keeps P.rel.st.keep,z⟩).imp λQ E y=> ?_
 show wpAny G.M A (do callWith pos (<- eval (.Name (Str.ofString x) p) env) [] (backTo pos (starEach es env)) []) Q E s
 refine wpAny_bind (jR C R hx hv hd ?_)
 exact callWith_of (P:=G.K.In) (by rw [hp];rfl) (keeps_K hkeep) (bZ hp (wpAny_mono y (λvs s₁ z=>⟨z.1,wpAny_call z.2⟩) λ_ _ z=>z))
end
section
variable {hq:Bool} {k:Nat} {env:Env} {A:Around} {ι ι':List Addr} {q q':S} {s s':Shared} {H H':Hp} {h:Heap}
theorem A2 {hs:List ExceptHandler} {x c:String} {m m':Cm Fl} (h1:xU k env hs x m) (h2:xU k env hs c m'):xU k env hs c (if c=x then m else m'):=by
 by_cases e:c=x
 ·subst e;rw [if_pos rfl];exact h1
 ·rw [if_neg e];exact h2
theorem tS {L:List (String×Addr)} {c:String} {a:Addr} (e:L.lookup c=some a):(c,a)∈L:=bn e
theorem ig {f:String} {L:List (String×Addr)} (hL:∀c,G.cls c=L.lookup c) (h:(L.all λp=>zO G.K p.2 (Str.ofString f))=true):rV f:=λc a e =>
 (List.all_eq_true.mp h) (c,a) (tS ((hL c).symm.trans e))
theorem ii {f:String} {L:List (String×Addr)} (hL:∀c,G.cls c=L.lookup c) (h:(L.all λp=>Ek G.K p.2 (Str.ofString f))=true):rW f:=λc a e =>
 (List.all_eq_true.mp h) (c,a) (tS ((hL c).symm.trans e))
end
theorem ID {α:Type} {l:List α} (h:l.length=1):∃a,l=[a]:=List.length_eq_one_iff.mp h
theorem Fq {α:Type} {n:Nat} {l:List α} (h:l.length=n+1):∃a r,l=a::r/\r.length=n:=by
 cases l with
 | nil=>cases h
 | cons a r=>exact ⟨a,r,rfl,by simpa using h⟩
theorem IE {α:Type} {l:List α} (h:l.length=2):∃a b,l=[a,b]:=by obtain ⟨a,r,rfl,h2⟩:=Fq h;obtain ⟨b,rfl⟩:=ID h2;exact ⟨a,b,rfl⟩
theorem IF {α:Type} {l:List α} (h:l.length=3):∃a b c,l=[a,b,c]:=by obtain ⟨a,r,rfl,h2⟩:=Fq h;obtain ⟨b,c,rfl⟩:=IE h2;exact ⟨a,b,c,rfl⟩
theorem IG {α:Type} {l:List α} (h:l.length=4):∃a b c d,l=[a,b,c,d]:=by obtain ⟨a,r,rfl,h2⟩:=Fq h;obtain ⟨b,c,d,rfl⟩:=IF h2;exact ⟨a,b,c,d,rfl⟩
theorem Jk {α:Type} {l:List α} (h:l.length=5):∃a b c d e,l=[a,b,c,d,e]:=by obtain ⟨a,r,rfl,h2⟩:=Fq h;obtain ⟨b,c,d,e,rfl⟩:=IG h2;exact ⟨a,b,c,d,e,rfl⟩
theorem HC (C:bF G) {f:Addr} {F:Fc} {k:Nat} (hF:b7 true k f F) (hk:k<=100) {s₁:Shared} (hB:G.hB=s₁.heap) (hos:s₁.os=G.os) (hg:s₁.gens = #[]) (hval:∃H',F [.scr] []= .ok (.bool true) H')
  {R:Result->Shared->Prop} (hR:∀s',(∀b o,s₁.heap.get? b=some o->s'.heap.get? b=some o)->s'.os=s₁.os->s'.gens = #[]->R (.ok (.ret (.bool true))) s') :
  codeAny G.M callerA (.call (.ref f) ⟨[.ref G.sa],[]⟩) R s₁:=by
 obtain ⟨H',hv⟩:=hval
 haveI st:er [] [] s₁.heap:=⟨by rw [hB];exact λ_ _ e=>e,rfl,List.nodup_nil,λa ha=>(nomatch ha),λi a o e=>by simp at e⟩
 haveI:=hF callerA [] [] s₁ [.scr] [.ref G.sa] ⟨λ_=>rfl,by show 301+3*k<=800;exact bO 0x320a003d00012dac0000064a0031 hk,aam (Nat.add_le_add_left (Nat.mul_le_mul_left 50 hk) 4) ∅⟩ ⟨[],rfl⟩ st (λenv he=>by cases he) hg hos (λ_ h=>by cases h) (og rfl xO)
 rw [hv] at this
 refine this R λι' cv s' P r=> ?_
 rw [show cv= .bool true from r]
 exact hR s' (λb o e=>P.st.keep b o (by rw [hB];exact e)) (by rw [P.os,hos]) P.gens
set_option linter.unusedSimpArgs false
section
variable {α β:Type} {q q':S} {l:bk} {H:Hp}
theorem pL (m:Cm α) (f:α->Cm β) (q:S):(m.b f) q=match m q with | .ok a q'=>f a q' | .exc c q'=> .exc c q' | .stuck=> .stuck:=rfl
theorem Gr (a:α) (q:S):Cm.p a q= .ok a q:=rfl
theorem Gp (x:String) (l:bk) (H:Hp):af x ⟨l,H⟩=match l x with | some v=> .ok v ⟨l,H⟩ | none=> .stuck:=rfl
theorem y8 (x:String) (v:V) (l:bk) (H:Hp):aY x v ⟨l,H⟩= .ok () ⟨upd l x v,H⟩:=rfl
theorem Ef (m m':Cm Fl) (q:S):ay m m' q=match m q with | .ok .next q'=>m' q' | .ok (.ret v) q'=> .ok (.ret v) q' | .exc c q'=> .exc c q' | .stuck=> .stuck:=by
 unfold ay Cm.b
 cases m q with
 | ok a q'=>cases a<;>rfl
 | exc c q'=>rfl
 | stuck=>rfl
theorem qJ (F:Fc) (vs:List V) (l:bk) (H:Hp):bA F vs ⟨l,H⟩=match F vs H with | .ok v H'=> .ok v ⟨l,H'⟩ | .exc c H'=> .exc c ⟨l,H'⟩ | .stuck=> .stuck:=rfl
theorem At (c:String) (F:Fc) (vs:List V) (l:bk) (H:Hp):mG c F vs ⟨l,H⟩=match F (.inst c H.length::vs) (H++[.flds []]) with
 | .ok .none H'=> .ok (.inst c H.length) ⟨l,H'⟩ | .ok _ _=> .stuck | .exc c' H'=> .exc c' ⟨l,H'⟩ | .stuck=> .stuck:=rfl
theorem Gv (m:Cm Fl) (sel:String->Cm Fl) (q:S):zq m sel q=match m q with | .ok f q'=> .ok f q' | .exc c q'=>(match sel c q' with | .ok f q''=> .ok f q'' | _=> .stuck) | .stuck=> .stuck:=rfl
theorem Hy (ps:List String) (m:Cm Fl) (vs:List V) (H:Hp):ie ps m vs H=if vs.length=ps.length then (match m ⟨aX ps vs,H⟩ with
 | .ok (.ret v) q=> .ok v q.H | .ok .next q=> .ok .none q.H | .exc c q=> .exc c q.H | .stuck=> .stuck) else .stuck:=rfl
theorem kQ (vs:List V) (l:bk) (H:Hp):fN vs ⟨l,H⟩=if vs.length<=1000000 then .ok (.ref H.length) ⟨l,H++[.list vs]⟩ else .stuck:=rfl
theorem Ed (f c:String) (i:Nat) (l:bk) (H:Hp):aA f (.inst c i) ⟨l,H⟩=match H[i]? with | some (.flds fs)=>(match fs.lookup f with | some v=> .ok v ⟨l,H⟩ | none=> .stuck) | _=> .stuck:=rfl
theorem Cq (f c:String) (v:V) (i:Nat) (l:bk) (H:Hp):bT f v (.inst c i) ⟨l,H⟩=match H[i]? with | some (.flds fs)=>if fs.length<100 then .ok () ⟨l,H.set i (.flds (u7 f v fs))⟩ else .stuck | _=> .stuck:=rfl
theorem Ee (c0 f c:String) (i:Nat) (l:bk) (H:Hp):db c0 f (.inst c i) ⟨l,H⟩=if c=c0 then (match H[i]? with | some (.flds fs)=>(match fs.lookup f with | some _=> .stuck | none=> .ok () ⟨l,H⟩) | _=> .stuck) else .stuck:=rfl
theorem xr (i:Nat) (l:bk) (H:Hp):fQ (.ref i) ⟨l,H⟩=match H[i]? with | some (.list _)=> .ok true ⟨l,H⟩ | some (.dict _)=> .ok false ⟨l,H⟩ | _=> .stuck:=rfl
theorem Gq (T:String) (v:V) (l:bk) (H:Hp):po T v ⟨l,H⟩=match xM H v with | some t=> .ok (.bool (t==T||(t == "bool" && T == "int"))) ⟨l,H⟩ | none=> .stuck:=rfl
theorem qL (v:V) (l:bk) (H:Hp):eA v ⟨l,H⟩=match ax v H with | some xs=> .ok ⟨xs,λH=>ax v H=some xs⟩ ⟨l,H⟩ | none=> .stuck:=rfl
theorem uh {i:Nat} {xs:List V} (v:V) (l:bk) (H:Hp) (h:H[i]? = some (.list xs)) (hl:xs.length<1000000):j7 (.ref i) v ⟨l,H⟩= .ok .none ⟨l,H.set i (.list (xs++[v]))⟩:=by
 unfold j7;dsimp only;rw [h];exact if_pos hl
theorem y7 {o:V} {xs:List V} (l:bk) (H:Hp) (h:ax o H=some xs) (hl:xs.length<=1000000):ji [o] ⟨l,H⟩= .ok (.ref H.length) ⟨l,H++[.list xs]⟩:=by
 unfold ji;dsimp only;rw [h];exact if_pos hl
theorem j5 (l:bk) (x:String) (v:V):upd l x v x=some v:=if_pos rfl
theorem gX (l:bk) {x y:String} (v:V) (h:y≠x):upd l x v y=l y:=if_neg h
end
section
variable {g:Hp->Prop} {bd:V->Cm Unit} {body:Cm Fl}
open Classical in
theorem wg (x:V) (r:List V) (q:S):dD g bd body (x::r) q=match ((bd x).b λ_=>body) q with
  | .ok .next q'=>if g q'.H then dD g bd body r q' else .stuck
  | .ok (.ret v) q'=> .ok (.ret v) q'
  | .exc c q'=> .exc c q'
  | .stuck=> .stuck:=by
 show ((bd x).b λ_=>body.b (zr g (dD g bd body r))) q=_
 simp only [pL]
 cases bd x q with
 | stuck=>rfl
 | exc c q'=>rfl
 | ok u q' =>
  dsimp only
  cases body q' with
  | stuck=>rfl
  | exc c q'=>rfl
  | ok f q'=>cases f<;>rfl
theorem cN {x:V} {r:List V} {q q':S} (h:((bd x).b λ_=>body) q= .ok .next q') (hg:g q'.H):dD g bd body (x::r) q=dD g bd body r q':=by rw [wg,h];exact if_pos hg
theorem yv {x:V} {r:List V} {q q':S} {v:V} (h:((bd x).b λ_=>body) q= .ok (.ret v) q'):dD g bd body (x::r) q= .ok (.ret v) q':=by rw [wg,h]
theorem fE (I:List V->S->Prop) (step:∀x r q,I (x::r) q-> ∃q',((bd x).b λ_=>body) q= .ok .next q'/\g q'.H/\I r q'):∀xs q,I xs q-> ∃q',dD g bd body xs q= .ok .next q'/\I [] q'
 | [],q,h=>⟨q,rfl,h⟩
 | x::r,q,h=>by
  obtain ⟨q',h1,h2,h3⟩:=step x r q h
  rw [cN h1 h2]
  exact fE I step r q' h3
end
theorem oU (i:Int):SeqAt.shaped (.int i)=true:=by simp [SeqAt.shaped,PyData.canLay0,PyData.depth]
def Sh (n:Nat) (d:PyData):Prop:=d.canLay0=true/\d.depth<=n
theorem Ax (n:Nat) (i:Int):Sh n (.int i):=⟨by simp [PyData.canLay0],by simp [PyData.depth]⟩
theorem Aw {n:Nat}:∀ {ds:List PyData},(∀d∈ds,Sh n d)->PyData.canLayAll0 ds=true/\PyData.depthAll ds<=n
 | [],_=>⟨by simp [PyData.canLayAll0],by simp [PyData.depthAll]⟩
 | d::ds,h=>by
  obtain ⟨h1,h2⟩:=Aw (n:=n) λe he=>h e (.tail _ he)
  obtain ⟨h3,h4⟩:=h d (.head _)
  exact ⟨by simp [PyData.canLayAll0,h1,h3],by simp only [PyData.depthAll];exact Nat.max_le.mpr ⟨h4,h2⟩⟩
theorem Bv {n:Nat} {ds:List PyData} (h:∀d∈ds,Sh n d):Sh (n+1) (.list ds):=by
 obtain ⟨h1,h2⟩:=Aw h
 exact ⟨by simpa [PyData.canLay0] using h1,by simp [PyData.depth];exact h2⟩
theorem Eo {n:Nat} {ds:List PyData} (h:∀d∈ds,Sh n d):Sh (n+1) (.tuple ds):=by
 obtain ⟨h1,h2⟩:=Aw h
 exact ⟨by simpa [PyData.canLay0] using h1,by simp [PyData.depth];exact h2⟩
theorem Sh.shaped {n:Nat} {d:PyData} (h:Sh n d) (hn:n<=64):SeqAt.shaped d=true:=by
 unfold SeqAt.shaped;rw [h.1];haveI:=h.2;simp;exact bP 0x40a100101000040a0012 hn this
theorem yP {α β γ:Type} (f:β->Option γ) (g:α->β) (h:α->γ) (e:∀x,f (g x)=some (h x)):∀xs:List α,eD f (xs.map g)=some (xs.map h)
 | []=>rfl
 | x::xs=>by
  show ((f (g x)).bind λd=>(eD f (xs.map g)).map (d :: ·))=_
  rw [e x,yP f g h e xs];rfl
theorem uS (H:Hp) (i:Int):toD H 8 (.int i)=some (.int i):=rfl
theorem zp (H:Hp) (i:Nat) {xs:List V} {ds:List PyData} (h:H[i]? = some (.list xs)) (hd:eD (toD H 7) xs=some ds):toD H 8 (.ref i)=some (.list ds):=by
 show (match H[i]? with | some (.list xs)=>(eD (toD H 7) xs).map PyData.list | _=>none)=_
 rw [h];dsimp only;rw [hd];rfl
theorem pZ (H:Hp) (n:Nat) (xs:List Int):eD (toD H (n+1)) (xs.map V.int)=some (xs.map PyData.int):=yP (toD H (n+1)) V.int PyData.int (λ_=>rfl) xs
theorem xF (xs:List Int):Sh 1 (.list (xs.map PyData.int)):=Bv λd hd=>by obtain ⟨i,_,rfl⟩:=aae.mp hd;exact Ax _ _
theorem oD {α:Type} [DecidableEq α] (f:α->PyData) (h:∀x y,PyData.eqv (f x) (f y)=decide (x=y)):∀xs ys:List α,PyData.eqvAll (xs.map f) (ys.map f)=decide (xs=ys)
 | [],[]=>rfl
 | [],y::ys=>rfl
 | x::xs,[]=>rfl
 | x::xs,y::ys=>by
  show (PyData.eqv (f x) (f y)&&PyData.eqvAll (xs.map f) (ys.map f))=_
  rw [h,oD f h xs ys,<- Bool.decide_and]
  exact decide_eq_decide.mpr (by rw [List.cons.injEq])
theorem sP (i j:Int):PyData.eqv (.int i) (.int j)=decide (i=j):=rfl
theorem pM (i j:Int) (q:S):tB (.int i) (.int j) q= .ok (decide (i=j)) q:=by
 unfold tB Fa;rw [uS,uS,Option.bind_some,Option.bind_some,oU,oU];rfl
theorem jX {i j:Nat} {xs ys:List Int} {q:S} (h1:q.H[i]? = some (.list (xs.map .int))) (h2:q.H[j]? = some (.list (ys.map .int))):tB (.ref i) (.ref j) q= .ok (decide (xs=ys)) q:=by
 haveI t1:toD q.H 8 (.ref i)=some (.list (xs.map PyData.int)):=zp _ _ h1 (pZ _ _ _)
 haveI t2:toD q.H 8 (.ref j)=some (.list (ys.map PyData.int)):=zp _ _ h2 (pZ _ _ _)
 unfold tB Fa
 rw [t1,t2,Option.bind_some,Option.bind_some,(xF xs).shaped ∅,(xF ys).shaped ∅]
 show sM.ok (PyData.eqvAll _ _) q=_
 rw [oD PyData.int sP]
theorem qK {i:Nat} {a:Int} {xs:List Int} {q:S} (h1:q.H[i]? = some (.list (xs.map .int))):rk (.int a) (.ref i) q= .ok (decide (a∈xs)) q:=by
 haveI:∀xs:List Int,((xs.map PyData.int).any λy=>PyData.eqv y (.int a))=decide (a∈xs):=λxs=>by
  induction xs with
  | nil=>simp
  | cons x xs ih=>simp only [aas,List.any_cons,ih,sP,aah,Bool.decide_or,@eq_comm _ x a]
 unfold rk IZ;dsimp only;rw [h1];dsimp only
 rw [uS,pZ,Option.bind_some,Option.bind_some,oU,(xF xs).shaped ∅,this];rfl
theorem ba (H:Hp) (o:O):(H++[o])[H.length]? = some o:=by simp
theorem wk (H:Hp) (o o':O):(H++[o]).set H.length o'=H++[o']:=by simp
theorem aE {H H':Hp} (p:H<+:H') {i:Nat} {o:O} (e:H[i]? = some o):H'[i]? = some o:=getElem?_prefix p e
theorem iN (b:Int) (q:S) (h : -1000000<b/\b<1000000):dh [.int b] q= .ok ⟨bE 0 b.toNat,λ_=>True⟩ q:=by
 unfold dh;dsimp only;rw [if_pos h];rfl
theorem bB (a b:Int) (hb:0<b):0<=a.fmod b/\a.fmod b<b:=⟨Int.fmod_nonneg_of_pos a hb,Int.fmod_lt_of_pos a hb⟩
section
variable {m m':Cm Fl} {q:S} {P P':S->Prop} {R:V->Hp->Prop}
theorem ak {q':S} {r:sM S Fl} (h:m q= .ok .next q') (k:m' q'=r):ay m m' q=r:=by rw [Ef,h];exact k
end
section
variable {m:Cm Fl} {ps:List String} {vs:List V} {H:Hp} {q:S} {v:V} {c:String}
theorem nk (hl:vs.length=ps.length) (h:m ⟨aX ps vs,H⟩= .ok .next q):ie ps m vs H= .ok .none q.H:=by rw [Hy,if_pos hl,h]
theorem a9 (hl:vs.length=ps.length) (h:m ⟨aX ps vs,H⟩= .ok (.ret v) q):ie ps m vs H= .ok v q.H:=by rw [Hy,if_pos hl,h]
theorem iC (hl:vs.length=ps.length) (h:m ⟨aX ps vs,H⟩= .exc c q):ie ps m vs H= .exc c q.H:=by rw [Hy,if_pos hl,h]
theorem cX {m m':Cm Fl} {q q':S} {v:V} (h:m q= .ok (.ret v) q'):ay m m' q= .ok (.ret v) q':=by rw [Ef,h]
theorem jn {m m':Cm Fl} {q q':S} {c:String} (h:m q= .exc c q'):ay m m' q= .exc c q':=by rw [Ef,h]
end
section
variable {hq:Bool} {k:Nat} {env:Env} {A:Around} {ι ι':List Addr} {q q':S} {s s':Shared} {H H':Hp} {h:Heap}
noncomputable def nq:List V->Cm V
 | [.int a,.int b]=>λq=>if (0<=a/\a<=b)/\b<1000 then .ok (.ref q.H.length) { q with H:=q.H++[.list (bE a (b-a).toNat)] } else .stuck
 | [.int b]=>λq=>if 0<=b/\b<1000 then .ok (.ref q.H.length) { q with H:=q.H++[.list (bE 0 b.toNat)] } else .stuck
 | _=> .stk
theorem zw {a:Int}:∀ {n:Nat} {vs:List Value} (f:Nat->Int),(∀i,f i=a+i)->vs.length=n->(∀(i:Nat) (v:Value),vs[i]? = some v-> ∃t,v= .int (a+i) t)->aM ι h (bE a n) vs:=by
 intro n
 induction n generalizing a with
 | zero=>intro vs f _ hl _;rw [List.length_eq_zero_iff.mp hl];rfl
 | succ n ih =>
  intro vs f hf hl hv
  cases vs with
  | nil=>simp at hl
  | cons v vs =>
   obtain ⟨t,rfl⟩:=hv 0 v rfl
   refine ⟨_,vs,rfl,⟨t,by simp⟩,ih (a:=a+1) (λi=>a+1+i) (λ_=>rfl) (by simpa using hl) λi w hw=> ?_⟩
   obtain ⟨t',e⟩:=hv (i+1) w (by simpa using hw)
   exact ⟨t',by rw [e];congr 1;push_cast;exact aa4 (dE 0xf190cc190fc0c80) (dE 0x190fc0c0f190cc80)⟩
theorem q9 (hh:A.handled=none) (R:cC A env ι q s) {a b:Int} {v0 v1 v2:Value} {t t2 t3:Tok} {tk0:Nat} (hv:v0= .int a t/\v1= .int b t2/\v2= .int 1 t3) (hb:(0<=a/\a<=b)/\b<1000) {Q:Value->Shared->Prop} {E:Value->Shared->Prop}
  (hQ:∀ι' cv s',aR A env ι s ι' { q with H:=q.H++[.list (bE a (b-a).toNat)] } s'->aL ι' s'.heap (.ref q.H.length) cv->Q cv s') :
  wpAny G.M A (call (.type "list") [.ref s.heap.objs.size]) Q E { s with heap:=s.heap.push { cls:= .type "range",data:= .fields #[v0,v1,v2] },toks:=tk0 }:=by
 obtain ⟨rfl,rfl,rfl⟩:=hv
 haveI hsz:=xy a b
 haveI hsm:Builtin.Range.small a b 1=true:=zc ⟨cI 0xf4240a1b9009811 hb.1.1,qw 0xf4240a090003e8a19110812 hb.1.2 hb.2⟩ ⟨qw 0x10f4240a1b91081009812 hb.1.1 hb.1.2,cI 0xf4240a090003e8a0911 hb.2⟩
 haveI st:s.heap.StaysIn (s.heap.push { cls:= .type "range",data:= .fields #[.int a t,.int b t2,.int 1 t3] }):=λc o e=>aal _ e
 refine call_list_range hh (aaM _ rfl) hsm hsz (Int.toNat_le.mpr (aa9 (Int.sub_le_self _ hb.1.1) (aa9 (Int.le_of_lt hb.2) ∅))) λh' tk acc' c' hk hS hI=> ?_
 have sz:(s.heap.push { cls:= .type "range",data:= .fields #[.int a t,.int b t2,.int 1 t3] }).objs.size=s.heap.objs.size+1:=Heap.size_push ..
 rw [sz] at hS ⊢
 haveI nw:s.heap.get? (s.heap.objs.size+1)=none:=aaO (bO 0x190c000)
 refine hQ _ _ _ (aR.alloc (tk:=tk) R (λb o e=>hk b o (st b o e)) nw ⟨acc'.toList,⟨c',by simpa using hS⟩,zw (λi=>a+i) (λ_=>rfl) (by simpa using hI.1) λi v hv=> ?_⟩) (ja R.st _)
 obtain ⟨t',e⟩:=hI.2 i v (by simpa using hv)
 exact ⟨t',by rw [e];simp⟩
theorem CW (hh:A.handled=none) (R:cC A env ι q s) {vs:List V} {cvs:List Value} (hv:aM ι s.heap vs cvs) :
  aP A env ι s (nq vs q) (aL) (λQ E s=>wpAny G.M A (call (.type "range") cvs) (λx s₁=>wpAny G.M A (call (.type "list") [x]) Q E s₁) E s):=by
 cases vs with
 | nil=>trivial
 | cons v vs =>
 cases v with
 | int a =>
  cases vs with
  | nil =>
   obtain ⟨cv,_,rfl,⟨t,rfl⟩,e⟩:=hv;rw [show _=[] from e]
   unfold nq;dsimp only
   split
   ·rename_i hb
    intro Q E hQ
    exact call_range_1 (q9 (a:=0) (b:=a) hh R ⟨rfl,rfl,rfl⟩ ⟨⟨by decide,hb.1⟩,hb.2⟩ (by simpa using hQ))
   ·trivial
  | cons v vs =>
  cases vs with
  | cons _ _=>cases v<;>trivial
  | nil =>
  cases v with
  | int b =>
   obtain ⟨cv,_,rfl,⟨t,rfl⟩,cv2,_,rfl,⟨t2,rfl⟩,e⟩:=hv;rw [show _=[] from e]
   unfold nq;dsimp only
   split
   ·rename_i hb
    intro Q E hQ
    exact call_range_2 (q9 (a:=a) (b:=b) hh R ⟨rfl,rfl,rfl⟩ hb hQ)
   ·trivial
  | _=>trivial
 | _=>cases vs with
  | nil=>trivial
  | cons v vs=>trivial
theorem CQ (C:bF G) (hh:hq=true) {es:List Expr} {p1 p2 ipos pos:Pos} {m:Cm (List V)} (hx1:env.kindOf (Str.ofString "list")=some .globalImplicit) (hv1:nsIn G.K mainGlobals (Str.ofString "list")=some none)
  (hx2:env.kindOf (Str.ofString "range")=some .globalImplicit) (hv2:nsIn G.K mainGlobals (Str.ofString "range")=some none) (h1:AK hq k env es m) (hp2:(backTo ipos (starEach es env)).any (·.1)=false)
  (he:starEach [Expr.Call (.Name (Str.ofString "range") p2) es [] ipos] env=(false,eval (.Call (.Name (Str.ofString "range") p2) es [] ipos) env)::starEach [] env)
  (hp:(backTo pos (starEach [Expr.Call (.Name (Str.ofString "range") p2) es [] ipos] env)).any (·.1)=false) :
  Ev hq k env (.Call (.Name (Str.ofString "list") p1) [.Call (.Name (Str.ofString "range") p2) es [] ipos] [] pos) (m.b λvs=>nq vs):=by
 intro A ι q s ha R
 refine (aP.b (T':=λvs Q E s₁=>wpAny G.M A (call (.type "range") vs) (λx s₁=>wpAny G.M A (call (.type "list") [x]) Q E s₁) E s₁) (h1 ipos A ι q s ha R) λa q' ι' b s' _ P hv=>CW (ha.hd hh) P.rel hv).imp λQ E y=> ?_
 show wpAny G.M A (do callWith pos (<- eval (.Name (Str.ofString "list") p1) env) [] (backTo pos (starEach [Expr.Call (.Name (Str.ofString "range") p2) es [] ipos] env)) []) Q E s
 refine wpAny_bind (jM C R hx1 hv1 (v:= .type "list") ∅ ∅ ∅ ?_)
 refine fB _ _ _ _ _ _ _ _ hp (bZ hp (wpAny_items_cons ?_ he))
 show wpAny G.M A (do callWith ipos (<- eval (.Name (Str.ofString "range") p2) env) [] (backTo ipos (starEach es env)) []) _ E s
 refine wpAny_bind (jM C R hx2 hv2 (v:= .type "range") ∅ ∅ ∅ ?_)
 refine fB _ _ _ _ _ _ _ _ hp2 (bZ hp2 (wpAny_mono y (λvs s₁ z=>wpAny_mono z (λx s₂ u=>wpAny_items_nil u) λ_ _ u=>u) λ_ _ z=>z))
end
noncomputable def gD (caps:List String) (l:bk):bk:=λx=>if x∈caps then l x else none
open Classical in
noncomputable def ru {α:Type} (l:bk):sM S α->sM Hp α
 | .ok a q=>if q.l=l then .ok a q.H else .stuck
 | _=> .stuck
noncomputable def bN (bd:V->Cm Unit) (tst:Cm Bool) (elt:Cm V) (lc:bk) (v:V) (H:Hp):sM Hp (Option V):=match bd v ⟨lc,H⟩ with
 | .ok _ q1=>(match ru q1.l (tst q1) with
  | .ok true H2=>(match ru q1.l (elt ⟨q1.l,H2⟩) with | .ok y H3=> .ok (some y) H3 | _=> .stuck)
  | .ok false H2=> .ok none H2
  | _=> .stuck)
 | _=> .stuck
open Classical in
noncomputable def fP (g:Hp->Prop) (bd:V->Cm Unit) (tst:Cm Bool) (elt:Cm V) (lc:bk):List V->Hp->sM Hp (List V)
 | [],H=> .ok [] H
 | v::r,H=>match bN bd tst elt lc v H with
  | .ok o H'=>if g H' then (match fP g bd tst elt lc r H' with | .ok ys H''=> .ok (o.toList++ys) H'' | _=> .stuck) else .stuck
  | _=> .stuck
noncomputable def cP (caps:List String) (mi:Cm It) (bd:V->Cm Unit) (tst:Cm Bool) (elt:Cm V):Cm V:=mi.b λit=>λq =>
 if it.xs.length<=1000000 then (match fP it.g bd tst elt (gD caps q.l) it.xs q.H with
  | .ok ys H'=> .ok (.ref H'.length) ⟨q.l,H'++[.list ys]⟩
  | _=> .stuck) else .stuck
theorem tM {α:Type} {l:bk} {r:sM S α} {a:α} {H:Hp} (e:ru l r= .ok a H):r= .ok a ⟨l,H⟩:=by
 cases r with
 | ok b q =>
  unfold ru at e;dsimp only at e
  split at e
  ·rename_i h
   cases e
   obtain ⟨ql,qH⟩:=q
   dsimp only at h
   subst h
   rfl
  ·cases e
 | _=>cases e
theorem tL {α:Type} {l:bk} {a:α} {H:Hp}:ru l (.ok a ⟨l,H⟩)= .ok a H:=by unfold ru;exact if_pos rfl
theorem yf {bd:V->Cm Unit} {tst:Cm Bool} {elt:Cm V} {lc:bk} {v:V} {H H':Hp} {o:Option V} (e:bN bd tst elt lc v H= .ok o H') :
  ∃u q1,bd v ⟨lc,H⟩= .ok u q1/\((tst q1= .ok false ⟨q1.l,H'⟩/\o=none)\/ ∃H2 y,tst q1= .ok true ⟨q1.l,H2⟩/\elt ⟨q1.l,H2⟩= .ok y ⟨q1.l,H'⟩/\o=some y):=by
 refine wj λX' kX=> ?_
 unfold bN at e
 cases h1:bd v ⟨lc,H⟩ with
 | ok u q1 =>
  rw [h1] at e;dsimp only at e
  cases h2:ru q1.l (tst q1) with
  | ok b H2 =>
   rw [h2] at e
   cases b with
   | true =>
    dsimp only at e
    cases h3:ru q1.l (elt ⟨q1.l,H2⟩) with
    | ok y H3 =>
     rw [h3] at e
     cases e
     exact kX ⟨u,q1,h1,.inr ⟨H2,y,tM h2,tM h3,rfl⟩⟩
    | _=>rw [h3] at e;cases e
   | false =>
    cases e
    exact kX ⟨u,q1,h1,.inl ⟨tM h2,rfl⟩⟩
  | _=>rw [h2] at e;cases e
 | _=>rw [h1] at e;cases e
open Classical in
theorem tu {g:Hp->Prop} {bd:V->Cm Unit} {tst:Cm Bool} {elt:Cm V} {lc:bk} (v:V) (r:List V) (H:Hp):fP g bd tst elt lc (v::r) H=match bN bd tst elt lc v H with
  | .ok o H'=>if g H' then (match fP g bd tst elt lc r H' with | .ok ys H''=> .ok (o.toList++ys) H'' | _=> .stuck) else .stuck
  | _=> .stuck:=rfl
theorem Dc {g:Hp->Prop} {bd:V->Cm Unit} {tst:Cm Bool} {elt:Cm V} {lc:bk} {v:V} {r:List V} {H Hf:Hp} {ys:List V} (e:fP g bd tst elt lc (v::r) H= .ok ys Hf) :
  ∃o H' zs,A4 (bN bd tst elt lc v H= .ok o H') (g H') (fP g bd tst elt lc r H'= .ok zs Hf) (ys=o.toList++zs):=by
 refine wj λX' kX=> ?_
 rw [tu] at e
 cases h1:bN bd tst elt lc v H with
 | ok o H' =>
  rw [h1] at e;dsimp only at e
  by_cases hg:g H'
  ·rw [if_pos hg] at e
   cases h2:fP g bd tst elt lc r H' with
   | ok zs H'' =>
    rw [h2] at e
    cases e
    exact kX ⟨o,H',zs,h1,hg,h2,rfl⟩
   | _=>rw [h2] at e;cases e
  ·rw [if_neg hg] at e;cases e
 | _=>rw [h1] at e;cases e
noncomputable def jO (scope:Scope) (env:Env):List (Str×Addr):=scope.names.foldl (λcs p=>if p.2 == .free then (p.1,(env.cells.lookup p.1).getD 0)::cs else cs) []
noncomputable def yw (scope:Scope):List Str:=(scope.names.filter λp=>p.2 == .free).map (·.1)
noncomputable def Hj:Option NameKind->Bool
 | some .cell=>true
 | some .free=>true
 | _=>false
theorem yG {k:Option NameKind} (h:Hj k=true):k=some .cell\/k=some .free:=by
 cases k with
 | none=>cases h
 | some k =>
  cases k with
  | cell=>exact .inl rfl
  | free=>exact .inr rfl
  | _=>cases h
noncomputable def AU (scope:Scope) (env:Env) (caps:List String):Bool :=
 (scope.kind == .function)&&(scope.names.all λp=>p.2 != .cell)&&(scope.names.all λp=>p.2 != .local||scope.names.lookup p.1==some .local) &&
 (scope.names.all λp=>p.2 != .free||(env.cells.lookup p.1).isSome)&&decide (yw scope).Nodup&&((yw scope).all λn=>caps.any λx=>n==Str.ofString x) &&
 (caps.all λx=>(yw scope).contains (Str.ofString x))&&(caps.all λx=>Hj ((relabel scope env).names.lookup (Str.ofString x)))&&(caps.all λx=>Hj (env.kindOf (Str.ofString x)))
structure fR (env:Env) (scope:Scope) (cl:List (Str×Addr)) (caps:List String):Prop where
 kind:scope.kind= .function
 cell:∀y∈scope.names,y.2≠ .cell
 names:∀x∈scope.names,x.2= .local->scope.names.lookup x.1=some .local
 at':∀p∈cl,env.cells.lookup p.1=some p.2
 nd:(cl.map (·.1)).Nodup
 all:∀p∈cl,∃x∈caps,p.1=Str.ofString x
 cap:∀x∈caps,Str.ofString x∈cl.map (·.1)
 kc:∀x∈caps,(relabel scope env).names.lookup (Str.ofString x)=some .cell\/(relabel scope env).names.lookup (Str.ofString x)=some .free
 ke:∀x∈caps,env.kindOf (Str.ofString x)=some .cell\/env.kindOf (Str.ofString x)=some .free
theorem xZ (env:Env):∀(l:List (Str×NameKind)) (acc:List (Str×Addr)),
  l.foldl (λcs p=>if p.2 == .free then (p.1,(env.cells.lookup p.1).getD 0)::cs else cs) acc=((l.filter λp=>p.2 == .free).map λp=>(p.1,(env.cells.lookup p.1).getD 0)).reverse++acc
 | [],acc=>rfl
 | p::r,acc=>by
  rw [List.foldl_cons,xZ env r]
  cases h:p.2 == .free with
  | true=>rw [aaU (by exact h)];simp
  | false=>rw [aaV (by rw [h];simp)];simp
theorem xY (scope:Scope) (env:Env):jO scope env=((scope.names.filter λp=>p.2 == .free).map λp=>(p.1,(env.cells.lookup p.1).getD 0)).reverse:=by
 unfold jO;rw [xZ];simp
theorem qm (scope:Scope) (env:Env):(jO scope env).map (·.1)=(yw scope).reverse:=by
 rw [xY,List.map_reverse,aaQ];rfl
theorem fR.of {env:Env} {scope:Scope} {caps:List String} (h:AU scope env caps=true):fR env scope (jO scope env) caps:=by
 unfold AU at h
 simp only [Bool.and_eq_true] at h
 refine bS λY9 y9=> ?_
 obtain ⟨⟨⟨⟨⟨⟨⟨⟨h1,h2⟩,h3⟩,h4⟩,h5⟩,h6⟩,h7⟩,h8⟩,h9⟩:=h
 refine y9 ?_
 rw [List.all_eq_true] at h2 h3 h4 h6 h7 h8 h9
 refine ⟨beq_iff_eq.mp h1,λy hy=>by simpa using h2 y hy,λx hx e=> ?_,λp hp=> ?_,?_,λp hp=> ?_,λx hx=> ?_,λx hx=>yG (h8 x hx),λx hx=>yG (h9 x hx)⟩
 ·haveI:=h3 x hx
  rw [e] at this
  simpa using this
 ·rw [xY,aax,aae] at hp
  refine bS λY9 y9=> ?_
  obtain ⟨p',hp',rfl⟩:=hp
  obtain ⟨m1,m2⟩:=aaD.mp hp'
  haveI:=h4 p' m1
  rw [show p'.2= .free from beq_iff_eq.mp m2] at this
  haveI h':(env.cells.lookup p'.1).isSome=true:=by simpa using this
  obtain ⟨a,ha⟩:=aaR.mp h'
  refine y9 ?_
  dsimp only
  rw [ha];rfl
 ·rw [qm];exact List.pairwise_reverse.mpr ((of_decide_eq_true h5:(yw scope).Nodup).imp λh=>Ne.symm h)
 ·haveI hm:p.1∈(jO scope env).map (·.1):=aae.mpr ⟨p,hp,rfl⟩
  rw [qm,aax] at hm
  obtain ⟨x,hx,e⟩:=List.any_eq_true.mp (h6 _ hm)
  exact ⟨x,hx,beq_iff_eq.mp e⟩
 ·rw [qm,aax]
  simpa using h7 x hx
theorem wr {l:List (Str×Addr)} {x y:Str} {c:Addr} (hn:(l.map (·.2)).Nodup) (h1:(x,c)∈l) (h2:(y,c)∈l):x=y:=by
 induction l with
 | nil=>cases h1
 | cons p r ih =>
  rw [aas,aaP] at hn
  rcases aah.mp h1 with e1 | h1<;>rcases aah.mp h2 with e2 | h2
  ·rw [<- e1] at e2;exact (congrArg Prod.fst e2).symm
  ·exact absurd (aae.mpr ⟨_,h2,by rw [<- e1]⟩) hn.1
  ·exact absurd (aae.mpr ⟨_,h1,by rw [<- e2]⟩) hn.1
  ·exact ih hn.2 h1 h2
theorem xk {l:List (Str×Addr)} (hn:(l.map (·.1)).Nodup) (h:∀p∈l,∀p'∈l,p.2=p'.2->p.1=p'.1):(l.map (·.2)).Nodup:=by
 induction l with
 | nil=>exact List.nodup_nil
 | cons p r ih =>
  rw [aas,aaP] at hn ⊢
  refine ⟨λhm=> ?_,ih hn.2 λa ha b hb=>h a (.tail _ ha) b (.tail _ hb)⟩
  obtain ⟨p',hp',e⟩:=aae.mp hm
  exact hn.1 (aae.mpr ⟨p',hp',h p' (.tail _ hp') p (.head _) e⟩)
section
variable {hq:Bool} {k:Nat} {env:Env} {A:Around} {ι ι' ι0:List Addr} {q q':S} {s s' s0:Shared} {H H':Hp} {h:Heap} {scope:Scope} {cl:List (Str×Addr)} {caps:List String} {Cd:Addr}
theorem jK.weaken {l l':bk} {hv hl:Heap} (x:jK env l ι hv hl) (h:∀y v,l' y=some v->l y=some v):jK env l' ι hv hl :=
 ⟨x.kind,x.glob,x.blt,let ⟨m,hn,hm⟩:=x.loc;⟨m,hn,λy v e e2=>hm y v (h y v e) e2⟩,λy v e e2=>x.cel y v (h y v e) e2,x.cells,x.ndup,x.dis,x.fresh⟩
theorem cC.weaken {l':bk} (R:cC A env ι q s) (h:∀y v,l' y=some v->q.l y=some v):cC A env ι ⟨l',q.H⟩ s:=⟨R.st,R.fr.weaken h,R.fs,R.gens,R.os,R.hn⟩
theorem uo {l:bk} {x:String} {v:V} (e:gD caps l x=some v):x∈caps/\l x=some v:=by
 unfold gD at e
 split at e
 ·rename_i h;exact ⟨h,e⟩
 ·cases e
theorem fR.mem (Z:fR env scope cl caps) {p:Str×Addr} (hp:p∈cl):p∈env.cells:=bn (Z.at' p hp)
theorem fR.own (Z:fR env scope cl caps) {a:Addr} (ha:a∈cl.map (·.2)):a∈own env:=by
 obtain ⟨p,hp,rfl⟩:=aae.mp ha
 exact List.mem_cons_of_mem _ (aae.mpr ⟨p,Z.mem hp,rfl⟩)
theorem fR.look (Z:fR env scope cl caps) {x:String} (hx:x∈caps) {a:Addr} (h:env.cells.lookup (Str.ofString x)=some a):cl.lookup (Str.ofString x)=some a:=by
 obtain ⟨p,hp,e⟩:=aae.mp (Z.cap x hx)
 haveI h1:=Z.at' p hp
 rw [e,h] at h1
 haveI:p=(Str.ofString x,a):=by obtain ⟨p1,p2⟩:=p;dsimp only at e h1;rw [e,Option.some.inj h1]
 exact lookup_of_mem_nodup Z.nd (this▸hp)
theorem lv.comp (ha:lv hq k A env):lv hq k A (compEnvC scope cl Cd env):=⟨ha.toROk,ha.fr⟩
theorem cC.comp (Z:fR env scope cl caps) (R:cC A env ι q s) {m:Str->Option Value} (hn:s.heap.Ns Cd m) (hC:Cd∉ι/\G.hB.get? Cd=none) :
  cC A (compEnvC scope cl Cd env) ι ⟨gD caps q.l,q.H⟩ s where
 st:=R.st
 fs:=R.fs
 gens:=R.gens
 os:=R.os
 hn:=R.hn
 fr:={
  kind:=Z.kind
  glob:=R.fr.glob
  blt:=R.fr.blt
  loc:=⟨m,hn,λx v e e2=>by
   obtain ⟨hx,_⟩:=uo e
   have e2':(relabel scope env).names.lookup (Str.ofString x)=some .local:=e2
   rcases Z.kc x hx with h1 | h1<;>rw [h1] at e2'<;>cases e2'⟩
  cel:=λx v e _=>by
   refine bS λY9 y9=> ?_
   obtain ⟨hx,e⟩:=uo e
   obtain ⟨c,o,cv,h1,h2,h3,h4⟩:=R.fr.cel x v e (Z.ke x hx)
   refine y9 ?_
   exact ⟨c,o,cv,Z.look hx h1,h2,h3,h4⟩
  cells:=λp hp=>R.fr.cells p (Z.mem hp)
  ndup:=xk Z.nd λp hp p' hp' e=>wr (c:=p.2) R.fr.ndup (Z.mem hp) (by rw [e];exact Z.mem hp')
  dis:=λa ha=>by
   rcases aah.mp ha with rfl | ha
   ·exact hC.1
   ·exact R.fr.dis a (Z.own ha)
  fresh:=λa ha=>by
   rcases aah.mp ha with rfl | ha
   ·exact hC.2
   ·exact R.fr.fresh a (Z.own ha) }
theorem aR.comp (Z:fR env scope cl caps) {q0 qc:S} (R0:cC A env ι0 q0 s0) (P0:aR A env ι0 s0 ι q s) (hC:s0.heap.get? Cd=none) (Rc:cC A (compEnvC scope cl Cd env) ι qc s)
  (P:aR A (compEnvC scope cl Cd env) ι s ι' q' s') (hl:∀x∈caps,q'.l x=q.l x):aR A env ι0 s0 ι' ⟨q.l,q'.H⟩ s':=by
 have im:nE s.heap s'.heap:=Rc.imm P.kp
 have R:=P0.rel
 obtain ⟨cO,cF,cB⟩:=R0.fresh3 hC
 have isCell:∀a∈env.cells.map (·.2),∃o ov,s.heap.get? a=some o/\o.data= .cell ov:=λa ha=>by
  obtain ⟨p,hp,rfl⟩:=aae.mp ha;exact R.fr.cells p hp
 haveI notFr:∀a∈env.cells.map (·.2),a∉kx A:=λa ha hf=>by
  refine bS λY9 y9=> ?_
  obtain ⟨o,ov,e,d⟩:=isCell a ha
  obtain ⟨o',e',es,n,d'⟩:=dI R.fs hf
  refine y9 ?_
  rw [e] at e';cases e';rw [d] at d';cases d'
 have cellEx:∀a∈env.cells.map (·.2),a∉cl.map (·.2)-> ∀o,s.heap.get? a=some o->s'.heap.get? a=some o:=λa ha hn o e=>by
  have hao:a∈own env:=List.mem_cons_of_mem _ ha
  refine P.kp.ex a o e (λhm=> ?_) (notFr a ha)
  rcases aan.mp hm with h1 | h1
  ·rcases aah.mp h1 with h1 | h1
   ·exact cO ((show a=Cd from h1)▸hao)
   ·exact hn h1
  ·exact R.fr.dis a hao h1
 refine ⟨P0.pre.trans P.pre,⟨P.rel.st,⟨R.fr.kind,R.fr.glob,R.fr.blt,?_,?_,?_,R.fr.ndup,?_,R.fr.fresh⟩,P.rel.fs,P.rel.gens,P.rel.os,P.rel.hn⟩,?_,λa ha=>qC P0.new P0.kp.size P.new ha⟩
 ·refine bS λY9 y9=> ?_
  obtain ⟨m,⟨o,es,ep,ho,hd,r⟩,hm⟩:=R.fr.loc
  obtain ⟨sl,hs⟩:=P.kp.up env.locals o ho λhm=>by
   rcases aan.mp hm with h1 | h1
   ·rcases aah.mp h1 with h1 | h1
    ·exact cO ((show env.locals=Cd from h1) ▸ .head _)
    ·haveI h1':env.locals∈cl.map (·.2):=h1
     obtain ⟨p,hp,e⟩:=aae.mp h1'
     obtain ⟨o',ov,e',d'⟩:=isCell env.locals (aae.mpr ⟨p,Z.mem hp,e⟩)
     rw [ho] at e';cases e';rw [hd] at d';cases d'
   ·exact R.fr.dis _ (.head _) h1
  refine y9 ?_
  exact ⟨m,⟨_,es,ep,hs,hd,r⟩,λy v e e2=>let ⟨cv,a,b⟩:=hm y v e e2;⟨cv,a,b.mono P.pre im⟩⟩
 ·intro x v e e2
  refine bS λY9 y9=> ?_
  obtain ⟨c,o,cv,h1,h2,h3,h4⟩:=R.fr.cel x v e e2
  refine y9 ?_
  have hmem:=bn h1
  by_cases hc:c∈cl.map (·.2)
  ·refine bS λY9 y9=> ?_
   obtain ⟨p,hp,e3⟩:=aae.mp hc
   obtain ⟨y,hy,e4⟩:=Z.all p hp
   refine y9 ?_
   have e5:p.1=Str.ofString x:=wr (c:=c) R.fr.ndup (by haveI:=Z.mem hp;rw [<- e3];exact this) hmem
   obtain rfl:y=x:=fJ (e4.symm.trans e5)
   refine bS λY9 y9=> ?_
   obtain ⟨c',o',cv',k1,k2,k3,k4⟩:=P.rel.fr.cel y v ((hl y hy).trans e) (Z.kc y hy)
   refine y9 ?_
   exact ⟨c',o',cv',Z.at' _ (bn k1),k2,k3,k4⟩
  ·exact ⟨c,o,cv,h1,cellEx c (aae.mpr ⟨_,hmem,rfl⟩) hc o h2,h3,h4.mono P.pre im⟩
 ·intro p hp
  by_cases hc:p.2∈cl.map (·.2)
  ·obtain ⟨p',hp',e⟩:=aae.mp hc
   rw [<- e]
   exact P.rel.fr.cells p' hp'
  ·refine bS λY9 y9=> ?_
   obtain ⟨o,ov,h1,h2⟩:=R.fr.cells p hp
   refine y9 ?_
   exact ⟨o,ov,cellEx p.2 (aae.mpr ⟨p,hp,rfl⟩) hc o h1,h2⟩
 ·intro a ha hi
  rcases P.new a hi with h1 | h1
  ·exact R.fr.dis a ha h1
  ·obtain ⟨o,e,_⟩:=R.fr.mut (λ_ _ e=>e) ha
   rw [h1] at e;cases e
 ·have off:∀a o,s0.heap.get? a=some o->a∉own env++ι0->a∉own (compEnvC scope cl Cd env)++ι:=λa o e hW hm=>by
   rcases aan.mp hm with h1 | h1
   ·rcases aah.mp h1 with h1 | h1
    ·rw [show a=Cd from h1,hC] at e;cases e
    ·exact hW (aaE _ (Z.own h1))
   ·rcases P0.new a h1 with h2 | h2
    ·exact hW (aat _ h2)
    ·rw [h2] at e;cases e
  refine ⟨P0.kp.size.trans P.kp.size,λa o e hW=> ?_,λa o e hW hf=>P.kp.ex a o (P0.kp.ex a o e hW hf) (off a o e hW) hf⟩
  obtain ⟨sl,e1⟩:=P0.kp.up a o e hW
  obtain ⟨sl2,e2⟩:=P.kp.up a _ e1 (off a o e hW)
  exact ⟨sl2,e2⟩
theorem aR.join {q0:S} {D:Addr} {o:O} (R:cC A env ι q0 s) (P:aR A env ι s ι' q' s') (hs:s.heap.get? D=none) (hD:D∉ι') (ho:o8 (ι'++[D]) s'.heap D o) :
  aR A env ι s (ι'++[D]) ⟨q'.l,q'.H++[o]⟩ s':=by
 have pre:ι'<+:ι'++[D]:=aaz _ _
 have im:=nE.refl s'.heap
 obtain ⟨n2,n4,n3⟩:=R.fresh3 hs
 have R':=P.rel
 refine ⟨P.pre.trans pre,⟨⟨R'.st.keep,by simp [R'.st.len],?_,?_,?_⟩,⟨R'.fr.kind,R'.fr.glob,R'.fr.blt,?_,?_,R'.fr.cells,R'.fr.ndup,?_,R'.fr.fresh⟩,?_,R'.gens,R'.os,R'.hn⟩,P.kp,?_⟩
 ·exact List.nodup_append.mpr ⟨R'.st.nodup,by simp,λx hx y hy=>by simp at hy;subst hy;exact λe=>hD (e▸hx)⟩
 ·intro x hx
  rcases aan.mp hx with h | h
  ·exact R'.st.fresh x h
  ·simp at h;subst h;exact n3
 ·intro i x y e1 e2
  dsimp only at e2
  by_cases hi:i<ι'.length
  ·rw [aaw hi] at e1
   rw [aaw (R'.st.len▸hi)] at e2
   exact (R'.st.obj i x y e1 e2).stays pre λ_ _ e=>e
  ·haveI hi':i=ι'.length:=by
    haveI:=(aab.mp e1).1
    simp at this;exact aaf (bP 0x100191c0111 this) (bP 0x1010511 hi)
   subst hi'
   simp at e1;subst e1
   rw [R'.st.len] at e2;simp at e2;subst e2
   exact ho
 ·obtain ⟨m,hn,hm⟩:=R'.fr.loc
  exact ⟨m,hn,λy v e e2=>let ⟨cv,a,b⟩:=hm y v e e2;⟨cv,a,b.mono pre im⟩⟩
 ·exact λy v e e2=>let ⟨c,o,cv,a,b,d,f⟩:=R'.fr.cel y v e e2;⟨c,o,cv,a,b,d,f.mono pre im⟩
 ·intro x hx hm
  rcases aan.mp hm with h | h
  ·exact R'.fr.dis x hx h
  ·simp at h;subst h;exact n2 hx
 ·intro env' he
  refine bS λY9 y9=> ?_
  obtain ⟨b1,L,o',b2,b3,b4,b5,b6⟩:=R'.fs env' he
  refine y9 ?_
  refine ⟨b1,L,o',b2,b3,b4,λhm=> ?_,b6⟩
  rcases aan.mp hm with h | h
  ·exact b5 h
  ·simp at h;subst h;exact n4 (List.mem_filterMap.mpr ⟨env',he,b2⟩)
 ·intro x hx
  rcases aan.mp hx with h | h
  ·exact P.new x h
  ·simp at h;subst h;exact .inr hs
end
abbrev Ip (hq:Bool) (k:Nat) (env:Env) (ifs:List Expr) (m:Cm Bool):Prop :=
 Sem.Is hq k env (λA=>mh A (forIn ifs true λc r=>if r=true then do let ok <- isTrue c env (eval c env);pure (ForInStep.yield ok) else pure (ForInStep.yield r))) m (λ_ _ a b=>a=b)
def CM (caps:List String) (bd:V->Cm Unit):Prop:= ∀v q u q',bd v q= .ok u q'-> ∀x∈caps,q'.l x=q.l x
section
variable {hq:Bool} {k:Nat} {env:Env} {A:Around} {ι ι' ι0:List Addr} {q q':S} {s s' s0:Shared} {H H':Hp} {h:Heap} {scope:Scope} {cl:List (Str×Addr)} {caps:List String} {Cd:Addr}
theorem ti:Ip hq k env [] (.p true):=λA ι q s ha R=>aP.ret0 R rfl λQ E hQ=>wpAny_tests_nil hQ
theorem j6 {c:Expr} {m:Cm Bool} (h:Tr hq k env c m):Ip hq k env [c] m:=λA ι q s ha R=>(h A ι q s ha R).imp λQ E x=>wpAny_tests_one x
theorem eP {x:String} (hx:x∉caps):CM caps (aY x):=λv q u q' e y hy=>by
 cases e
 haveI hne:y≠x:=λe=>hx (e▸hy)
 show upd q.l x v y=q.l y
 exact gX _ _ hne
theorem AS {x y:String} (hx:x∉caps) (hy:y∉caps):CM caps (ww x y):=λv q u q' e z hz=>by
 cases v with
 | tup l =>
  cases l with
  | nil=>cases e
  | cons a l =>
  cases l with
  | nil=>cases e
  | cons b l =>
  cases l with
  | cons _ _=>cases e
  | nil =>
  cases e
  haveI h1:z≠y:=λe=>hy (e▸hz)
  haveI h2:z≠x:=λe=>hx (e▸hz)
  show upd (upd q.l x _) y _ z=q.l z
  rw [gX _ _ h1,gX _ _ h2]
 | _=>cases e
theorem wP {elt target iter:Expr} {ifs:List Expr} {pos:Pos} {it acc:Value} {cenv:Env} {R:Result->Shared->Prop} (I:Nat->Shared->Prop)
  (turn:∀n s,I n s->wpAny G.M A (pyNext it) (λr s₁=>match r with
   | none=>R (.ok .next) s₁
   | some v=>wpAny G.M A (letOwnedTupleGo target it v) (λ_ s₂=>wpAny G.M A (assign target cenv v) (λ_ s₂ =>
     wpAny G.M A (forIn ifs true λc r=>if r=true then do let ok <- isTrue c cenv (eval c cenv);pure (ForInStep.yield ok) else pure (ForInStep.yield r)) (λok s₃ =>
      if ok=true then wpAny G.M A (eval elt cenv) (λx s₄ =>
       wpAny G.M A (call (.builtin "list.append") [acc,x]) (λ_ s₅=> ∃m,m<n/\I m s₅) (notedBy G.M A cenv λe s'=>R (.error e) s') s₄) (notedBy G.M A cenv λe s'=>R (.error e) s') s₃
      else ∃m,m<n/\I m s₃) (notedBy G.M A cenv λe s'=>R (.error e) s') s₂) (notedBy G.M A cenv λe s'=>R (.error e) s') s₂) (notedBy G.M A cenv λe s'=>R (.error e) s') s₁)
    (notedBy G.M A cenv λe s'=>R (.error e) s') s)
  (n:Nat) (h:I n s):codeAny G.M A (.compLoop (.ListComp elt [⟨target,iter,ifs,0⟩] scope pos) 0 it acc cenv) R s:=by
 refine codeAny_loop rfl I (λn s hI=> ?_) n h
 show wpAny _ A ((compTurn (.ListComp elt [⟨target,iter,ifs,0⟩] scope pos) 0 it acc cenv).onRaise (λx=>do noteFrame x cenv;theTreesLotGoes x)) _ _ s
 refine wpAny_noted ?_
 rw [compTurn_list]
 refine wpAny_bind (wpAny_standAt (wpAny_bind (wpAny_mono (turn n s hI) (λr s₁ h₁=> ?_) λ_ _ h'=>h')))
 cases r with
 | none=>exact wpAny_pure h₁
 | some v =>
  refine wpAny_bind (wpAny_mono h₁ (λ_ s₂ h₂=>wpAny_bind (wpAny_mono h₂ (λ_ s₃ h₃=>wpAny_bind (wpAny_mono h₃ (λok s₄ h₄=> ?_) λ_ _ h'=>h')) λ_ _ h'=>h')) λ_ _ h'=>h')
  cases ok with
  | false=>exact wpAny_pure ⟨rfl,h₄⟩
  | true =>
   exact wpAny_bind (wpAny_bind (wpAny_mono h₄ (λx s₅ h₅=>wpAny_bind (wpAny_mono h₅ (λ_ s₆ h₆=>wpAny_pure (wpAny_pure ⟨rfl,h₆⟩)) λ_ _ h'=>h')) λ_ _ h'=>h'))
theorem Co {h:Heap} {a:Addr} {xs:Array Value} (x:h.PlainList a xs):∃o,h.get? a=some o/\CH o:=let ⟨n,e⟩:=x;⟨_,e,.inl ⟨"list",rfl,by decide⟩⟩
inductive CI (A:Around) (env cenv:Env) (ι ι1:List Addr) (s:Shared) (l1 lc:bk) (St:Nat->Heap->Prop) (priv:List Addr) (D Cd:Addr) (gg:Hp->Prop) (N:Nat) (Fn:Nat->Hp->List V->Prop) (ys:List V) (i:Nat) (ι':List Addr) (H':Hp) (ya:List V) (yc:List Value) (zs:List V) (s':Shared):Prop
 | mk (z0:i<=N) (z1:ι1<+:ι') (z2:aR A env ι s ι' ⟨l1,H'⟩ s') (z3:cC A cenv ι' ⟨lc,H'⟩ s') (z4:St i s'.heap) (z5:gg H') (z6:∀b∈priv,b∉ι') (z7:D∉ι') (z8:Cd∉ι') (z9:s'.heap.PlainList D (List.toArray yc)) (z10:aM ι' s'.heap ya yc) (z11:ya.length<=i) (z12:Fn i H' zs) (z13:ya++zs=ys)
inductive CN (A:Around) (env cenv:Env) (ι:List Addr) (s:Shared) (l1 lc:bk) (St:Nat->Heap->Prop) (priv:List Addr) (D Cd:Addr) (i:Nat) (ya:List V) (yc:List Value) (ι4:List Addr) (H4:Hp) (s4:Shared):Prop
 | mk (z0:aR A env ι s ι4 ⟨l1,H4⟩ s4) (z1:cC A cenv ι4 ⟨lc,H4⟩ s4) (z2:St i s4.heap) (z3:∀b∈priv,b∉ι4) (z4:D∉ι4) (z5:Cd∉ι4) (z6:s4.heap.PlainList D (List.toArray yc)) (z7:aM ι4 s4.heap ya yc)
theorem CU (Z:fR env scope cl caps) {elt target iter:Expr} {ifs:List Expr} {pos:Pos} {bd:V->Cm Unit} {tst:Cm Bool} {melt:Cm V} {I:Addr} {priv:List Addr} {ι1:List Addr} {it:It} {St:Nat->Heap->Prop} {q1:S} {s1:Shared}
  (ha:lv hq k A env) (R:cC A env ι q s) (hb:∀L,sZ hq k (compEnvC scope cl L env) target bd) (hbd:CM caps bd) (ht:∀L,Ip hq k (compEnvC scope cl L env) ifs tst)
  (he:∀L,Ev hq k (compEnvC scope cl L env) elt melt) (P1:aR A env ι s ι1 q1 s1) (hI:HX A target I priv ι1 it St) (h0:St 0 s1.heap) (hp:∀b∈priv,s.heap.get? b=none/\b∉ι1) (hg:it.g q1.H)
  (hlen:it.xs.length<=1000000) {ys:List V} {Hf:Hp} (hc:fP it.g bd tst melt (gD caps q1.l) it.xs q1.H= .ok ys Hf) {RR:Value->Addr->Result->Shared->Prop} {E:Value->Shared->Prop}
  (hRR:∀ι' D Cd m' s',aR A env ι s (ι'++[D]) ⟨q1.l,Hf++[.list ys]⟩ s'->ι'.length=Hf.length->s.heap.get? Cd=none->Cd∉ι'++[D]->s'.heap.Ns Cd m'->RR (.ref D) Cd (.ok .next) s') :
  wpAny G.M A (newList []) (λacc s₃=>wpAny G.M A (newFunctionEnv scope env.globals cl [] env.qual none .none (some env)) (λcenv s₄ =>
   codeAny G.M A (.compStart (.ListComp elt [⟨target,iter,ifs,0⟩] scope pos) 0 (.ref I) acc { cenv with scope:=relabel scope env }) (RR acc cenv.locals) s₄) E s₃) E s1:=by
 refine wpAny_newObj_type (wpAny_newFunctionEnv Z.cell (by intro y hy;simp at hy) (λh₁ hns1 hsb1=> ?_) Z.kind)
 dsimp only at hns1 hsb1 ⊢
 generalize hH2:s1.heap.push { cls:= .type "list",dict:=none,data:= .seq ([]:List Value).toArray }=H2 at hns1 hsb1 ⊢
 generalize hDe:s1.heap.objs.size=D at hns1 hsb1 ⊢
 have hC:H2.objs.size=D+1:=by rw [<- hH2,Heap.size_push,hDe]
 generalize hCe:H2.objs.size=Cd at hns1 hsb1 hC ⊢
 have hDC:D≠Cd:=λx9=>bP 0x90960131191c0312 hC x9
 have nD1:s1.heap.get? D=none:=aaO (bP 0x10010211 hDe)
 have nC1:s1.heap.get? Cd=none:=aaO (lZ 0x200191c23110212 hDe hC)
 have up0:∀a,s1.heap.get? a=none->s.heap.get? a=none:=λa ha=>by
  cases e:s.heap.get? a with
  | none=>rfl
  | some o=>obtain ⟨o',e'⟩:=P1.kp.size a o e;rw [ha] at e';cases e'
 have nD:=up0 D nD1
 have nC:=up0 Cd nC1
 obtain ⟨dO,dF,dB⟩:=R.fresh3 nD
 obtain ⟨cO,cF,cB⟩:=R.fresh3 nC
 have old:s1.heap.StaysIn h₁:=λb o e=>hsb1.extBut b o (Nat.ne_of_lt (aaX (Heap.lt_size e) (by rw [hDe,hC];exact Nat.le_succ _))) (aal _ (hH2▸aal _ e))
 have hacc:h₁.PlainList D #[]:=⟨_,hsb1.extBut _ _ hDC (aal _ (by rw [<- hH2,<- hDe];exact aaM _ rfl))⟩
 have pNe:∀b∈priv,b≠D/\b≠Cd:=λb hb=>by
  obtain ⟨o,e,_⟩:=hI.mu _ _ h0 b hb
  have lt:=Heap.lt_size e
  rw [hDe] at lt
  exact ⟨Nat.ne_of_lt lt,Nat.ne_of_lt (by rw [hC];exact Nat.lt_succ_of_lt lt)⟩
 have pFr:∀b∈priv,b∉own env/\b∉kx A/\G.hB.get? b=none:=λb hb=>R.fresh3 (hp b hb).1
 have pOwn:∀b∈priv,b∉own (compEnvC scope cl Cd env):=λb hb hm=>by
  rcases aah.mp hm with h1 | h1
  ·exact (pNe b hb).2 h1
  ·exact (pFr b hb).1 (Z.own h1)
 have dOwn:D∉own (compEnvC scope cl Cd env):=λhm=>by
  rcases aah.mp hm with h1 | h1
  ·exact hDC h1
  ·exact dO (Z.own h1)
 have haC:lv hq k A (compEnvC scope cl Cd env):=ha.comp
 have loop:∀s₂:Shared,s₂={ s1 with heap:=h₁,toks:=s1.toks+([]:List (Str×Value)).length } ->
   codeAny G.M A (.compLoop (.ListComp elt [⟨target,iter,ifs,0⟩] scope pos) 0 (.ref I) (.ref D) (compEnvC scope cl Cd env)) (RR (.ref D) Cd) s₂:=by
  rintro s₂ rfl
  have P2:aR A env ι s ι1 q1 { s1 with heap:=h₁,toks:=s1.toks+([]:List (Str×Value)).length }:=P1.trans (aR.stays P1.rel old)
  have cI1:Cd∉ι1:=(P1.rel.fresh_ne nC1).1
  have dI1:D∉ι1:=(P1.rel.fresh_ne nD1).1
  obtain ⟨J,toJ,ofJ⟩:∃J:Nat->Shared->Prop,(∀n s',(∃i ι' H' ya yc zs,n=it.xs.length+1-i/\CI A env (compEnvC scope cl Cd env) ι ι1 s q1.l (gD caps q1.l) St priv D Cd it.g it.xs.length (λi H' zs=>fP it.g bd tst melt (gD caps q1.l) (it.xs.drop i) H'= .ok zs Hf) ys i ι' H' ya yc zs s')->J n s')/\ ∀n s',J n s'-> ∃i ι' H' ya yc zs,n=it.xs.length+1-i/\CI A env (compEnvC scope cl Cd env) ι ι1 s q1.l (gD caps q1.l) St priv D Cd it.g it.xs.length (λi H' zs=>fP it.g bd tst melt (gD caps q1.l) (it.xs.drop i) H'= .ok zs Hf) ys i ι' H' ya yc zs s':=⟨_,λ_ _ h=>h,λ_ _ h=>h⟩
  refine wP J ?_ (it.xs.length+1) (toJ _ _ ⟨0,ι1,q1.H,[],[],ys,rfl,Nat.zero_le _,aaj _,P2,cC.comp Z P2.rel hns1 ⟨cI1,cB⟩,hI.frame _ _ _ h0 (λb _ o e=>old b o e),hg,λb hb=>(hp b hb).2,dI1,cI1,hacc,xO,aaL _,by rw [List.drop_zero];exact hc,rfl⟩)
  intro n s' hJ
  obtain ⟨i,ι',H',ya,yc,zs,rfl,hi,hpre,P,Rc,hst,hg',hpi,hDi,hCi,hpl,hvr,hyl,hcf,hys⟩:=ofJ n s' hJ
  have hp':∀b∈priv,s.heap.get? b=none/\b∉ι':=λb hb=>⟨(hp b hb).1,hpi b hb⟩
  have hcp:∀b∈priv,b∉ι'/\b∉own (compEnvC scope cl Cd env)/\b∉kx A/\G.hB.get? b=none:=λb hb=>⟨hpi b hb,pOwn b hb,(pFr b hb).2.1,(pFr b hb).2.2⟩
  rcases Nat.lt_or_ge i it.xs.length with hlt | hge
  ·obtain ⟨x,hx⟩:∃x,it.xs[i]? = some x:=⟨_,aao hlt⟩
   haveI hdrop:it.xs.drop i=x::it.xs.drop (i+1):=by
    rw [List.drop_eq_getElem_cons hlt];congr 1;rw [aao hlt] at hx;exact Option.some.inj hx
   rw [hdrop] at hcf
   obtain ⟨o,H2',zs',hstep,hg2,hrest,hz⟩:=Dc hcf
   obtain ⟨u,qa,hbx,hcase⟩:=yf hstep
   refine wpAny_mono (hI.item i x s' ι' H' _ _ hx hpre hpi P.rel.st hg' hst λv h' tk hk hv hst'=> ?_) (λr s₁ y=>by
    cases r with
    | none=>exact y.elim
    | some v=>exact y) λ_ _ y=>y
   obtain ⟨Pa,im⟩:=aR.off (tk:=tk) R P hp' (hI.mu _ _ hst) hk
   obtain ⟨Rc2,_⟩:=Rc.off (tk:=tk) hcp (hI.mu _ _ hst) hk
   have hpl2:h'.PlainList D yc.toArray:=hpl.at λo e=>hk D o (λhm=>(pNe D hm).1 rfl) e
   haveI hvr2:=hvr.mono (aaj _) im
   haveI hA:=hb Cd A ι' ⟨gD caps q1.l,H'⟩ _ x v haC Rc2 hv
   rw [hbx] at hA
   refine hA _ _ λι2 _ s3 Pb _=> ?_
   have hT:=ht Cd A ι2 qa s3 haC Pb.rel
   have hcaps:∀y∈caps,qa.l y=q1.l y:=λy hy=>(hbd _ _ _ _ hbx y hy).trans (if_pos hy)
   have next:∀ {ι4:List Addr} {H4:Hp} {s4:Shared},aR A (compEnvC scope cl Cd env) ι' { s' with heap:=h',toks:=tk } ι4 ⟨qa.l,H4⟩ s4 ->
     CN A env (compEnvC scope cl Cd env) ι s q1.l (gD caps q1.l) St priv D Cd (i+1) ya yc ι4 H4 s4:=λ{ι4 H4 s4} Pc=>by
    have there:∀b o,h'.get? b=some o->b∉ι'->b∉ι4:=λb o e hn hm=>by
     rcases Pc.new b hm with h1 | h1
     ·exact hn h1
     ·have h1':h'.get? b=none:=h1
      rw [e] at h1';cases h1'
    refine ⟨aR.comp Z R Pa nC Rc2 Pc hcaps,Pc.rel.weaken λy v e=> ?_,hI.frame _ _ _ hst' λb hb o e=> ?_,λb hb=> ?_,?_,?_,?_,hvr2.mono Pc.pre (Rc2.imm Pc.kp)⟩
    ·obtain ⟨hy,e⟩:=uo e
     exact (hcaps y hy).trans e
    ·exact Pc.kp.ex b o e (λhm=>(aan.mp hm).elim (pOwn b hb) (hpi b hb)) (pFr b hb).2.1
    ·obtain ⟨o,e,_⟩:=hI.mu _ _ hst' b hb
     exact there b o e (hpi b hb)
    ·obtain ⟨n,e⟩:=hpl2
     exact there D _ e hDi
    ·obtain ⟨m,⟨o,es,ep,e,_⟩,_⟩:=Rc2.fr.loc
     exact there Cd o e hCi
    ·exact hpl2.at λo e=>Pc.kp.ex D o e (λhm=>(aan.mp hm).elim dOwn hDi) dF
   rcases hcase with ⟨htst,rfl⟩ | ⟨H3,y,htst,helt,rfl⟩
   ·rw [htst] at hT
    refine hT _ _ λι3 bb s4 Pt hbb=> ?_
    cases hbb
    simp only [Bool.false_eq_true,if_false]
    obtain ⟨a1,a2,a3,a4,a5,a6,a7,a8⟩:=next (Pb.trans Pt)
    exact ⟨it.xs.length+1-(i+1),vd 0x30113c192c01192c191c0c212 (aaa (bP 0x191c190c010011 hi)) (sA _ _),toJ _ _ ⟨i+1,ι3,H2',ya,yc,zs',rfl,hlt,hpre.trans ((Pb.trans Pt).pre),a1,a2,a3,hg2,a4,a5,a6,a7,a8,Nat.le_succ_of_le hyl,hrest,by rw [<- hys,hz];rfl⟩⟩
   ·rw [htst] at hT
    refine hT _ _ λι3 bb s4 Pt hbb=> ?_
    cases hbb
    simp only [if_true]
    haveI hE:=he Cd A ι3 ⟨qa.l,H3⟩ s4 haC Pt.rel
    rw [helt] at hE
    refine hE _ _ λι4 cy s5 Pe hvy=> ?_
    obtain ⟨a1,a2,a3,a4,a5,a6,a7,a8⟩:=next ((Pb.trans Pt).trans Pe)
    haveI hyc:yc.length=ya.length:=a8.length
    refine wpAny_list_append_plain a7 (λh5 hpl5 hs5=> ?_) (by rw [aa1,hyc,sizeLine_eq];exact lZ 0xb20120101010f4240a0013 hlen hi hyl)
    have hmD:∀b∈[D],∃o,s5.heap.get? b=some o/\CH o:=λb hb=>by simp at hb;subst hb;exact Co a7
    have hk5:∀b o,b∉[D]->s5.heap.get? b=some o->h5.get? b=some o:=λb o hb e=>hs5.extBut b o (λq=>hb (by simp [q])) e
    obtain ⟨P6,im6⟩:=aR.off (tk:=s5.toks) R a1 (priv:=[D]) (λb hb=>by simp at hb;subst hb;exact ⟨nD,a5⟩) hmD hk5
    obtain ⟨R6,_⟩:=a2.off (tk:=s5.toks) (priv:=[D]) (λb hb=>by simp at hb;subst hb;exact ⟨a5,dOwn,dF,dB⟩) hmD hk5
    haveI hpush:yc.toArray.push cy=(yc++[cy]).toArray:=by simp
    rw [hpush] at hpl5
    refine ⟨it.xs.length+1-(i+1),vd 0x30113c192c01192c191c0c212 (aaa (bP 0x191c190c010011 hi)) (sA _ _),toJ _ _ ⟨i+1,ι4,H2',ya++[y],yc++[cy],zs',rfl,hlt,hpre.trans (((Pb.trans Pt).trans Pe).pre),P6,R6,hI.frame _ _ _ a3 λb hb o e=>hs5.extBut b o (pNe b hb).1 e,hg2,a4,a5,a6,hpl5,
     (a8.append (og hvy xO)).mono (aaj _) im6,by rw [aac];exact Nat.succ_le_succ hyl,hrest,by rw [<- hys,hz,aad];rfl⟩⟩
  ·haveI hi':i=it.xs.length:=aaf (hi) (hge)
   subst hi'
   rw [List.drop_length] at hcf
   cases hcf
   rw [List.append_nil] at hys
   subst hys
   refine wpAny_mono (hI.done s' ι' Hf (λs₁=>RR (.ref D) Cd (.ok .next) s₁) _ hpre hpi P.rel.st hg' hst P.rel.hn λh' tk hk=> ?_) (λr s₁ y=> ?_) λ_ _ y=>y
   ·obtain ⟨P2,im⟩:=aR.off (tk:=tk) R P hp' (hI.mu _ _ hst) hk
    obtain ⟨Rc2,_⟩:=Rc.off (tk:=tk) hcp (hI.mu _ _ hst) hk
    haveI hpl2:h'.PlainList D yc.toArray:=hpl.at λo e=>hk D o (λhm=>(pNe D hm).1 rfl) e
    obtain ⟨m,hn,_⟩:=Rc2.fr.loc
    exact hRR ι' D Cd m _ (aR.join R P2 nD hDi ⟨yc,hpl2,hvr.mono (aaz _ _) im⟩) P.rel.st.len nC (λhm=>(aan.mp hm).elim hCi λh1=>by simp at h1;exact hDC h1.symm) hn
   ·cases r with
    | none=>exact y
    | some v=>exact y.elim
 have hst1:St 0 h₁:=hI.frame _ _ _ h0 λb _ o e=>old b o e
 exact codeAny_compStart_list (loop _ rfl) (hI.self 0 _ _ _ hst1 (loop _ rfl))
theorem ye {mi:Cm It} {bd:V->Cm Unit} {tst:Cm Bool} {melt:Cm V} {it:It} {q1:S} (e:mi q= .ok it q1) :
  cP caps mi bd tst melt q= .stuck\/ ∃ys Hf,it.xs.length<=1000000/\fP it.g bd tst melt (gD caps q1.l) it.xs q1.H= .ok ys Hf/\cP caps mi bd tst melt q= .ok (.ref Hf.length) ⟨q1.l,Hf++[.list ys]⟩:=by
 unfold cP
 rw [fT e]
 by_cases hl:it.xs.length<=1000000
 ·cases h:fP it.g bd tst melt (gD caps q1.l) it.xs q1.H with
  | ok ys Hf=>exact .inr ⟨ys,Hf,hl,rfl,if_pos hl⟩
  | _=>exact .inl (if_pos hl)
 ·exact .inl (if_neg hl)
theorem Hu {h:Heap} {a:Addr} {m:Str->Option Value} (x:h.Ns a m):∃o,h.get? a=some o/\CH o:=let ⟨o,es,ep,e,d,_⟩:=x;⟨o,e,.inr (.inl ⟨es,ep,d⟩)⟩
theorem gG {elt target iter:Expr} {ifs:List Expr} {pos:Pos} (caps:List String) {mi:Cm It} {bd:V->Cm Unit} {tst:Cm Bool} {melt:Cm V} (hB:AU scope env caps=true) (hclos:closureFor scope env=pure (jO scope env))
  (hi:GK hq k env target iter mi) (hb:∀L,sZ hq k (compEnvC scope (jO scope env) L env) target bd) (hbd:CM caps bd) (ht:∀L,Ip hq k (compEnvC scope (jO scope env) L env) ifs tst)
  (he:∀L,Ev hq k (compEnvC scope (jO scope env) L env) elt melt) (hs:∀x,foldedSetIterable iter env x=pure x) :
  Ev hq k env (.ListComp elt [⟨target,iter,ifs,0⟩] scope pos) (cP caps mi bd tst melt):=by
 intro A ι q s ha R
 have Z:=fR.of hB
 refine aP.of λQ E hQ=> ?_
 rw [eval_ListComp]
 refine wpAny_comprehension_free (use:=none) rfl hs hclos Z.kind Z.names ?_
 have hi':=hi A ι q s ha R
 cases hmi:mi q with
 | stuck=>unfold cP at hQ;rw [cA hmi] at hQ;exact hQ.elim
 | exc c q1=>unfold cP at hQ;rw [hM hmi] at hQ;rw [hmi] at hi';exact hi' _ _ hQ
 | ok it q1 =>
  rw [hmi] at hi'
  rcases ye (caps:=caps) (bd:=bd) (tst:=tst) (melt:=melt) hmi with hst | ⟨ys,Hf,hl,hc,hok⟩
  ·rw [hst] at hQ;exact hQ.elim
  ·rw [hok] at hQ
   refine hi' _ _ λι1 cv s1 P1 hr=> ?_
   refine bS λY9 y9=> ?_
   obtain ⟨⟨I,priv,St,rfl,h0,hp,_,hI⟩,hg⟩:=hr
   refine y9 ?_
   refine CU (RR:=λacc C=>compPost G.M A E none Q acc C) Z ha R hb hbd ht he P1 hI h0 hp (hg q1 rfl) hl hc λι' D Cd m' s' P hlen nC hCi hn=> ?_
   refine ⟨m',hn,λh' hs'=> ?_⟩
   obtain ⟨P2,_⟩:=aR.off (tk:=s'.toks) R P (priv:=[Cd]) (λb hb=>by simp at hb;subst hb;exact ⟨nC,hCi⟩) (λb hb=>by simp at hb;subst hb;exact Hu hn) λb o hb e=>hs'.extBut b o (λq=>hb (by simp [q])) e
   exact hQ _ (.ref D) _ P2 ⟨D,by rw [<- hlen];simp,rfl⟩
theorem vX {elt target iter:Expr} {ifs:List Expr} {pos py spos:Pos} {y:String} (caps:List String) {mi:Cm It} {bd:V->Cm Unit} {tst:Cm Bool} {melt:Cm V} (hB:AU scope env caps=true)
  (hclos:closureFor scope env=pure (jO scope env))
  (hi:GK hq k env target iter mi) (hb:∀L,sZ hq k (compEnvC scope (jO scope env) L env) target bd) (hbd:CM caps bd) (ht:∀L,Ip hq k (compEnvC scope (jO scope env) L env) ifs tst)
  (he:∀L,Ev hq k (compEnvC scope (jO scope env) L env) elt melt) (hs:∀x,foldedSetIterable iter env x=pure x)
  (hsw:swapsWith (.ListComp elt [⟨target,iter,ifs,0⟩] scope pos) (some (.Name (Str.ofString y) py)) spos.line env=pure true) (hy:env.kindOf (Str.ofString y)=some .local) :
  Ex hq k env (.Assign [.Name (Str.ofString y) py] (.ListComp elt [⟨target,iter,ifs,0⟩] scope pos) spos) ((cP caps mi bd tst melt).b λv=>(aY y v).b λ_=> .p .next):=by
 intro A ι q s ha R
 have Z:=fR.of hB
 refine aP.of λQ E hQ=> ?_
 rw [exec_Assign_Name_used _ _ _ _ hsw]
 refine wpAny_bind (wpAny_standAt (wpAny_bind ?_))
 show wpAny _ A (do let _ <- comprehension (.ListComp elt [⟨target,iter,ifs,0⟩] scope pos) scope env _ (newList []) false (eval iter env) (some (assign (.Name (Str.ofString y) py) env))) _ _ s
 refine wpAny_bind (wpAny_mono (wpAny_comprehension_free (use:=some (assign (.Name (Str.ofString y) py) env)) (Q:=λ_ s'=>Q .next s') rfl hs hclos Z.kind Z.names ?_) (λ_ s' hq=>wpAny_pure (wpAny_pure hq)) λ_ _ e=>e)
 have hi':=hi A ι q s ha R
 cases hmi:mi q with
 | stuck=>rw [cA (show cP caps mi bd tst melt q= .stuck by unfold cP;exact cA hmi)] at hQ;exact hQ.elim
 | exc c q1=>rw [hM (show cP caps mi bd tst melt q= .exc c q1 by unfold cP;exact hM hmi)] at hQ;rw [hmi] at hi';exact hi' _ _ hQ
 | ok it q1 =>
  rw [hmi] at hi'
  rcases ye (caps:=caps) (bd:=bd) (tst:=tst) (melt:=melt) hmi with hst | ⟨ys,Hf,hl,hc,hok⟩
  ·rw [cA hst] at hQ;exact hQ.elim
  ·rw [fT hok] at hQ
   refine hi' _ _ λι1 cv s1 P1 hr=> ?_
   refine bS λY9 y9=> ?_
   obtain ⟨⟨I,priv,St,rfl,h0,hp,_,hI⟩,hg⟩:=hr
   refine y9 ?_
   refine CU (RR:=λacc C=>compPost G.M A E (some (assign (.Name (Str.ofString y) py) env)) (λ_ s'=>Q .next s') acc C) Z ha R hb hbd ht he P1 hI h0 hp (hg q1 rfl) hl hc λι' D Cd m' s' P hlen nC hCi hn=> ?_
   show wpAny _ A (assign (.Name (Str.ofString y) py) env (.ref D)) _ _ _
   refine wpAny_assign_Name (o9 (v:= .ref Hf.length) (.inl hy) P.rel ⟨D,by rw [<- hlen];simp,rfl⟩ _ _ λι2 u s2 P2 _=> ?_)
   haveI P3:=P.trans P2
   have cO:=R.fresh3 nC
   refine bS λY9 y9=> ?_
   obtain ⟨oC,es,ep,eC,dC,r⟩:=hn
   refine y9 ?_
   have eC2:s2.heap.get? Cd=some oC:=P2.kp.ex Cd oC eC (λhm=>(aan.mp hm).elim cO.1 hCi) cO.2.1
   have hC2:Cd∉ι2:=λhm=>by
    rcases P2.new Cd hm with h1 | h1
    ·exact hCi h1
    ·rw [eC] at h1;cases h1
   refine ⟨m',⟨oC,es,ep,eC2,dC,r⟩,λh' hs'=> ?_⟩
   obtain ⟨P4,_⟩:=aR.off (tk:=s2.toks) R P3 (priv:=[Cd]) (λb hb=>by simp at hb;subst hb;exact ⟨nC,hC2⟩) (λb hb=>by simp at hb;subst hb;exact ⟨oC,eC2,.inr (.inl ⟨es,ep,dC⟩)⟩)
    λb o hb e=>hs'.extBut b o (λq=>hb (by simp [q])) e
   exact hQ _ .next _ P4 rfl
noncomputable def gk (i:Int):List V->List V
 | []=>[]
 | x::r=> .tup [.int i,x]::gk (i+1) r
theorem hV:∀(xs:List V) (i:Int),(gk i xs).length=xs.length
 | [],_=>rfl
 | x::r,i=>by rw [gk,aau,hV r,aau]
theorem wa:∀(xs:List V) (a:Int) (i:Nat) (y:V),(gk a xs)[i]? = some y-> ∃x,xs[i]? = some x/\y= .tup [.int (a+i),x]
 | [],a,i,y,e=>by simp [gk] at e
 | x::r,a,0,y,e=>by simp [gk] at e;exact ⟨x,rfl,by rw [<- e];simp⟩
 | x::r,a,i+1,y,e=>by
  simp [gk] at e
  obtain ⟨z,h1,h2⟩:=wa r (a+1) i y e
  exact ⟨z,by simpa using h1,by rw [h2];congr 3;push_cast;exact aa4 (dE 0x190fc0c0f190cc80) (dE 0xf190cc190fc0c80)⟩
noncomputable def nO:List V->Cm It
 | [o]=>λq=>(match ax o q.H with
  | some xs=> .ok ⟨gk 0 xs,λH=>ax o H=some xs⟩ q
  | none=> .stuck)
 | _=> .stk
theorem DB (C:bF G) (hh:A.handled=none) {es:List Expr} {kk:Nat} {p:Pos} {e it l:Addr} {v:V} {xs:List V} (hv:∀ι',ι<+:ι'-> ∀h,aL ι' h v (.ref l)) (hei:e≠it) (hle:l≠e) (hli:l≠it) :
  HX A (.Tuple es kk p) e [e,it] ι ⟨gk 0 xs,λH=>ax v H=some xs⟩ (λi h=>(∃old,IsEnum h e it (i:Nat) old)/\h.IsListIter it l i) where
 mu:=λi h st b hb=>by
  obtain ⟨⟨old,he⟩,hit⟩:=st
  simp at hb
  rcases hb with rfl | rfl
  ·exact ⟨_,he,.inl ⟨_,rfl,by decide⟩⟩
  ·exact fF hit
 frame:=λi h h' st hk=>⟨let ⟨old,he⟩:=st.1;⟨old,hk e (by simp) _ he⟩,st.2.at λo x=>hk it (by simp) o x⟩
 item:=λi x s ι' H Q E hx hpre hpi R hg st hQ=>by
  refine bS λY9 y9=> ?_
  obtain ⟨⟨old,he⟩,hit⟩:=st
  obtain ⟨xi,hxi,rfl⟩:=wa _ _ _ _ hx
  obtain ⟨a,vs,e',g1,g2⟩:=gy C R (hv ι' hpre s.heap) hg
  refine y9 ?_
  cases e'
  obtain ⟨cv,c1,c2⟩:=g2.get hxi
  refine wpAny_pyNext_enum_item he hit g1 (x:=cv) (by simpa using c1) hei λh' ho hit' hT hsz hk=> ?_
  refine wpAny_letOwnedTupleGo_enum ho λh'' he'' hs''=> ?_
  have hs2:Heap.SameBut e h' h'':=hs''
  have helt:e<s.heap.objs.size:=Heap.lt_size he
  have kk2:∀b o,b∉[e,it]->s.heap.get? b=some o->h''.get? b=some o:=λb o hb e'=>hs2.extBut b o (λq=>hb (by simp [q])) (hk b o (λq=>hb (by simp [q])) (λq=>hb (by simp [q])) e')
  haveI im:nE s.heap h'':=λb o e' hmu=>⟨o.slots,kk2 b o (λhb=>by
   simp at hb
   rcases hb with rfl | rfl
   ·rw [he] at e';cases e';exact hmu (.inl ⟨_,rfl,by decide⟩)
   ·obtain ⟨o',e2,m2⟩:=fF hit;rw [e'] at e2;cases e2;exact hmu m2) e'⟩
  refine hQ _ h'' _ kk2 ⟨_,[.int i s.toks,cv],rfl,⟨_,hs2.extBut _ _ (Nat.ne_of_gt helt) hT,rfl,_,rfl⟩,?_⟩ ⟨⟨cv,by simpa using he''⟩,hit'.at λo y=>hs2.extBut _ _ hei.symm y⟩
  exact og ⟨s.toks,by simp⟩ (og (c2.mono (aaj _) im) xO)
 done:=λs ι' H Q E hpre hpi R hg st hn hQ=>by
  refine bS λY9 y9=> ?_
  obtain ⟨⟨old,he⟩,hit⟩:=st
  obtain ⟨a,vs,e',g1,g2⟩:=gy C R (hv ι' hpre s.heap) hg
  refine y9 ?_
  cases e'
  dsimp only at he hit
  rw [hV] at he hit
  refine wpAny_pyNext_enum_end hh he hit g1 (by simp [g2.length]) λh' hs=> ?_
  exact hQ h' s.toks λb o hb e'=>hs b o (λq=>hb (by simp [q])) e'
 self:=λi s Q E st hQ=>let ⟨⟨old,he⟩,_⟩:=st;wpAny_pyIter_enum he hQ
theorem GP (C:bF G) (hh:A.handled=none) {es:List Expr} {kk:Nat} {p:Pos} (R:cC A env ι q s) {vs:List V} {cvs:List Value} (hv:aM ι s.heap vs cvs) :
  aP A env ι s (nO vs q) (λι' h it cv=>xV A (.Tuple es kk p) s.heap ι' h it cv/\ ∀q',nO vs q= .ok it q'->it.g q'.H)
   (λQ E s=>wpAny G.M A (call (.type "enumerate") cvs) (λx s₁=>wpAny G.M A (pyIter x) Q E s₁) E s):=by
 cases vs with
 | nil=>trivial
 | cons v vs =>
 cases vs with
 | cons _ _=>trivial
 | nil =>
  obtain ⟨cv,_,rfl,h1,e⟩:=hv;rw [show _=[] from e]
  unfold nO;dsimp only
  cases hi:ax v q.H with
  | none=>trivial
  | some xs =>
   obtain ⟨l,vs,rfl,g1,g2⟩:=gy C R.st h1 hi
   intro Q E hQ
   have hl:l<s.heap.objs.size:=by obtain ⟨o,e,_⟩:=g1;exact Heap.lt_size e
   haveI hv2:∀ι',ι<+:ι'-> ∀h,aL ι' h v (.ref l):=λι' hp h=>tJ hi h1 hp
   refine call_enumerate_list g1 λh' hE hL hsz hk=>wpAny_pyIter_enum hE ?_
   have n0:s.heap.get? s.heap.objs.size=none:=aaO (aaL _)
   have n1:s.heap.get? (s.heap.objs.size+1)=none:=aaO (bO 0x190c000)
   refine hQ ι _ _ (aR.stays (tk:=s.toks) R hk) ⟨⟨_,[s.heap.objs.size+1,s.heap.objs.size],_,rfl,⟨⟨_,by simpa using hE⟩,hL⟩,λb hb=> ?_,λ_ _=>trivial,
    DB C hh hv2 (Nat.succ_ne_self _) (Nat.ne_of_lt (Nat.lt_succ_of_lt hl)) (Nat.ne_of_lt hl)⟩,λq' e=> ?_⟩
   ·simp at hb
    rcases hb with rfl | rfl
    ·exact ⟨n1,(R.fresh_ne n1).1⟩
    ·exact ⟨n0,(R.fresh_ne n0).1⟩
   ·cases e;exact hi
theorem CS (C:bF G) (hh:hq=true) {ts:List Expr} {kk:Nat} {pt p pos:Pos} {es:List Expr} {m:Cm (List V)} (hx:env.kindOf (Str.ofString "enumerate")=some .globalImplicit)
  (hv:nsIn G.K mainGlobals (Str.ofString "enumerate")=some none) (h1:AK hq k env es m) (hp:(backTo pos (starEach es env)).any (·.1)=false) :
  GK hq k env (.Tuple ts kk pt) (.Call (.Name (Str.ofString "enumerate") p) es [] pos) (m.b λvs=>nO vs) :=
 Gc C hx hv (bv:= .type "enumerate") ∅ ∅ ∅ (fB _) h1 hp λA ι q s vs cvs ha R hv=>GP C (ha.hd hh) R hv
end
section
variable {g:Hp->Prop} {bd:V->Cm Unit} {tst:Cm Bool} {elt:Cm V} {lc l1:bk} {H H2 H3:Hp} {v y:V} {u:Unit} {caps:List String}
theorem fC (h1:bd v ⟨lc,H⟩= .ok u ⟨l1,H⟩) (h2:tst ⟨l1,H⟩= .ok true ⟨l1,H2⟩) (h3:elt ⟨l1,H2⟩= .ok y ⟨l1,H3⟩):bN bd tst elt lc v H= .ok (some y) H3:=by
 unfold bN;rw [h1];dsimp only;rw [h2,tL];dsimp only;rw [h3,tL]
theorem gj (h1:bd v ⟨lc,H⟩= .ok u ⟨l1,H⟩) (h2:tst ⟨l1,H⟩= .ok false ⟨l1,H2⟩):bN bd tst elt lc v H= .ok none H2:=by
 unfold bN;rw [h1];dsimp only;rw [h2,tL]
theorem yd {r:List V} {o:Option V} {ys:List V} (h:bN bd tst elt lc v H= .ok o H2) (hg:g H2) (h2:fP g bd tst elt lc r H2= .ok ys H3):fP g bd tst elt lc (v::r) H= .ok (o.toList++ys) H3:=by
 rw [tu,h];dsimp only;rw [if_pos hg,h2]
theorem pj {α β:Type} (φ : α->Option β) (x:α) (xs:List α):(φ x).toList++xs.filterMap φ = (x::xs).filterMap φ := by
 cases e : φ x with
 | none=>rw [List.filterMap_cons_none e];rfl
 | some z=>rw [List.filterMap_cons_some e];rfl
theorem io (hg:g H) (φ : V->Option V):∀xs:List V,(∀x∈xs,bN bd tst elt lc x H= .ok (φ x) H)->fP g bd tst elt lc xs H= .ok (xs.filterMap φ) H
 | [],_=>rfl
 | x::xs,h=>by rw [yd (h x (.head _)) hg (io hg φ xs λz hz=>h z (.tail _ hz)),pj]
theorem ip {mi:Cm It} {it:It} {l:bk} {H1:Hp} {ys:List V} (h1:mi ⟨l,H⟩= .ok it ⟨l,H1⟩) (hl:it.xs.length<=1000000) (hc:fP it.g bd tst elt (gD caps l) it.xs H1= .ok ys H2) :
  cP caps mi bd tst elt ⟨l,H⟩= .ok (.ref H2.length) ⟨l,H2++[.list ys]⟩:=by
 unfold cP
 rw [fT h1]
 dsimp only
 rw [if_pos hl,hc]
theorem Bt {l:bk} {x:String} (h:x∈caps):gD caps l x=l x:=if_pos h
end
noncomputable def bg:List Bool->Option Nat
 | []=>none
 | false::_=>some 0
 | true::r=>(bg r).map (· + 1)
theorem gu:∀ {bs:List Bool} {j:Nat},bg bs=some j->j<bs.length/\bs[j]? = some false
 | [],_,e=>by cases e
 | false::r,_,e=>by cases e;exact ⟨by simp,rfl⟩
 | true::r,j,e=>by
  obtain ⟨k,h1,rfl⟩:=Option.map_eq_some_iff.mp e
  obtain ⟨h2,h3⟩:=gu h1
  exact ⟨by simp;exact h2,by simpa using h3⟩
noncomputable def gw (a:Int):List Bool->List Int
 | []=>[]
 | false::r=>a::gw (a+1) r
 | true::r=>gw (a+1) r
theorem qr:∀(bs:List Bool) (a:Int),(gw a bs).length+bs.count true=bs.length
 | [],_=>rfl
 | false::r,a=>by
  haveI:=qr r (a+1)
  rw [abb ∅,aau,<- this,Nat.add_right_comm];rfl
 | true::r,a=>by
  haveI:=qr r (a+1)
  rw [List.count_cons_self,aau,<- this,<- Nat.add_assoc];rfl
section
variable {H:Hp} {i:Nat} {bs:List Bool} {l:bk}
theorem rJ {k:Int} {b:Bool} (h:H[i]? = some (.list (bs.map .bool))) (h0:0<=k) (h1:k<1000000) (hb:bs[k.toNat]? = some b):aW (.ref i) (.int k) ⟨l,H⟩= .ok (.bool b) ⟨l,H⟩:=by
 unfold aW;dsimp only;rw [h];dsimp only;rw [if_pos ⟨h0,h1⟩,List.getElem?_map,hb];rfl
theorem mL {k:Int} {b:Bool} (h:H[i]? = some (.list (bs.map .bool))) (h0:0<=k) (h1:k<1000000) (hb:k<bs.length):bL (.ref i) (.int k) (.bool b) ⟨l,H⟩= .ok () ⟨l,H.set i (.list ((bs.set k.toNat b).map .bool))⟩:=by
 unfold bL;dsimp only;rw [h];dsimp only;rw [if_pos ⟨h0,h1,by rw [aak];exact hb⟩,List.map_set]
theorem cj {xs:List V} (h:H[i]? = some (.list xs)) (hl:xs.length<1000000):dw [.ref i] ⟨l,H⟩= .ok (.int xs.length) ⟨l,H⟩:=by
 unfold dw;dsimp only;rw [h];exact if_pos hl
end
noncomputable def nQ (bs:List Bool) (k:Int):Bool:=if 0<=k/\k<bs.length then (bs[k.toNat]?).getD false else false
noncomputable def IJ:V->Option V
 | .tup [.int i,.bool b]=>if b then none else some (.int i)
 | _=>none
theorem oA:∀(bs:List Bool) (a:Int),(gk a (bs.map V.bool)).filterMap IJ=(gw a bs).map V.int
 | [],_=>rfl
 | true::r,a=>oA r (a+1)
 | false::r,a=>congrArg (V.int a :: ·) (oA r (a+1))
theorem tA:∀(bs:List Bool) (a:Int) (x:V),x∈gk a (bs.map V.bool)-> ∃i b,x= .tup [.int i,.bool b]
 | [],_,_,h=>by cases h
 | b::r,a,x,h=>by
  rw [aas,gk] at h
  rcases aah.mp h with rfl | h
  ·exact ⟨_,_,rfl⟩
  ·exact tA r _ x h
noncomputable def II:V->Option V
 | .bool true=>some (.bool true)
 | _=>none
theorem qy:∀bs:List Bool,(bs.map V.bool).filterMap II=List.replicate (bs.count true) (V.bool true)
 | []=>rfl
 | true::r=>by rw [aas,List.filterMap_cons_some (by rfl),qy r,List.count_cons_self,List.replicate_succ]
 | false::r=>by rw [aas,List.filterMap_cons_none (by rfl),qy r,abb ∅]
noncomputable def Af (x:Int):List Int->List Int
 | []=>[x]
 | y::r=>if x<=y then x::y::r else y::Af x r
noncomputable def cH:List Int->List Int
 | []=>[]
 | x::r=>Af x (cH r)
theorem qt (x:Int):∀l:List Int,(Af x l).Perm (x::l)
 | []=> .refl _
 | y::r=>by
  unfold Af
  split
  ·exact .refl _
  ·exact ((qt x r).cons y).trans (.swap x y r)
theorem iS:∀l:List Int,(cH l).Perm l
 | []=> .refl _
 | x::r=>(qt x _).trans ((iS r).cons x)
theorem rn (x:Int):∀ {l:List Int},l.Pairwise (· <= ·)->(Af x l).Pairwise (· <= ·)
 | [],_=>by simp [Af]
 | y::r,h=>by
  unfold Af
  rw [aaJ] at h
  split
  ·rename_i hxy
   refine aaJ.mpr ⟨λz hz=> ?_,aaJ.mpr h⟩
   rcases aah.mp hz with rfl | hz
   ·exact hxy
   ·exact aa9 hxy (h.1 z hz)
  ·rename_i hxy
   refine aaJ.mpr ⟨λz hz=> ?_,rn x h.2⟩
   rcases aah.mp ((qt x r).mem_iff.mp hz) with rfl | hz
   ·exact Int.le_of_lt (Int.not_le.mp hxy)
   ·exact h.1 z hz
theorem lb:∀l:List Int,(cH l).Pairwise (· <= ·)
 | []=>by simp [cH]
 | x::r=>rn x (lb r)
theorem uv {a b:List Int} (p:a.Perm b) (h:a.Pairwise (· <= ·)):a=cH b:=lks_uniq (p.trans (iS b).symm) h (lb b)
noncomputable def dK (a b:Int×Int):Bool:=if a.1==b.1 then decide (a.2<b.2) else decide (a.1<b.1)
theorem xg {a b:Int×Int}:dK a b=false↔b.1<a.1\/(b.1=a.1/\b.2<=a.2):=by
 unfold dK
 by_cases h:a.1=b.1
 ·rw [if_pos (beq_iff_eq.mpr h),decide_eq_false_iff_not]
  exact ⟨λx=> .inr ⟨h.symm,Int.not_lt.mp x⟩,λx=>x.elim (λx=>absurd h (Int.ne_of_gt x)) λx=>Int.not_lt.mpr x.2⟩
 ·rw [if_neg (by rw [beq_iff_eq];exact h),decide_eq_false_iff_not]
  exact ⟨λx=> .inl ((Int.lt_or_eq_of_le (Int.not_lt.mp x)).resolve_right λe=>h e.symm),λx=>x.elim (λx=>Int.not_lt.mpr (Int.le_of_lt x)) λx=>absurd x.1.symm h⟩
theorem Bg {a b c:Int×Int} (h1:dK a b=false) (h2:dK b c=false):dK a c=false:=by
 rw [xg] at h1 h2 ⊢
 exact h1.elim (λx=> .inl (h2.elim (λy=>Int.lt_trans y x) λy=>y.1▸x)) λx=>h2.elim (λy=> .inl (x.1▸y)) λy=> .inr ⟨y.1.trans x.1,aa9 y.2 x.2⟩
theorem yM {a b:Int×Int} (h:dK a b=true):dK b a=false:=by
 rw [<- Bool.not_eq_false,xg] at h
 rw [xg]
 exact (Int.lt_trichotomy a.1 b.1).elim .inl λx=>x.elim (λe=> .inr ⟨e,(Int.le_total b.2 a.2).elim (λy=>absurd (.inr ⟨e.symm,y⟩) h) id⟩) λx=>absurd (.inl x) h
theorem Ho {a b:Int×Int} (h1:dK a b=false) (h2:dK b a=false):a=b:=by
 rw [xg] at h1 h2
 exact h1.elim (λx=>h2.elim (λy=>absurd x (Int.not_lt.mpr (Int.le_of_lt y))) λy=>absurd y.1 (Int.ne_of_gt x)) λx=>h2.elim (λy=>absurd x.1 (Int.ne_of_gt y)) λy=>Prod.ext x.1.symm (aa4 y.2 x.2)
abbrev AO (a b:Int×Int):Prop:=dK b a=false
noncomputable def Ca (x:Int×Int):List (Int×Int)->List (Int×Int)
 | []=>[x]
 | y::r=>bif dK y x then y::Ca x r else x::y::r
noncomputable def mP:List (Int×Int)->List (Int×Int)
 | []=>[]
 | x::r=>Ca x (mP r)
theorem wm (x y:Int×Int) (r:List (Int×Int)):Ca x (y::r)=bif dK y x then y::Ca x r else x::y::r:=rfl
theorem qu (x:Int×Int):∀l:List (Int×Int),(Ca x l).Perm (x::l)
 | []=> .refl _
 | y::r=>by
  rw [wm]
  cases dK y x with
  | true=>exact ((qu x r).cons y).trans (.swap x y r)
  | false=>exact .refl _
theorem lf:∀l:List (Int×Int),(mP l).Perm l
 | []=> .refl _
 | x::r=>(qu x _).trans ((lf r).cons x)
theorem rq (x:Int×Int):∀ {l:List (Int×Int)},l.Pairwise AO->(Ca x l).Pairwise AO
 | [],_=>abe _ _
 | y::r,h=>by
  obtain ⟨h1,h2⟩:=aaJ.mp h
  rw [wm]
  cases e:dK y x with
  | true =>
   refine aaJ.mpr ⟨λz hz=> ?_,rq x h2⟩
   rcases aah.mp ((qu x r).mem_iff.mp hz) with q | q
   ·rw [q];exact yM e
   ·exact h1 z q
  | false =>
   refine aaJ.mpr ⟨λz hz=> ?_,h⟩
   rcases aah.mp hz with q | q
   ·rw [q];exact e
   ·exact Bg (h1 z q) e
theorem pS:∀l:List (Int×Int),(mP l).Pairwise AO
 | []=> .nil
 | x::r=>rq x (pS r)
theorem Ay {a b:List (Int×Int)} (p:a.Perm b) (h:a.Pairwise AO):a=mP b :=
 List.Perm.eq_of_pairwise (λ_ _ _ _ h1 h2=>Ho h2 h1) h (pS b) (p.trans (lf b).symm)
noncomputable def rt:V->Option Int
 | .int i=>some i
 | _=>none
noncomputable def aO (p:Int×Int):V:= .tup [.int p.1,.int p.2]
noncomputable def Cp:V->Option (Int×Int)
 | .tup [.int a,.int b]=>some (a,b)
 | _=>none
theorem oI:∀ns:List Int,eD rt (ns.map V.int)=some ns
 | []=>rfl
 | n::ns=>by
  show (some n).bind (λd=>(eD rt (ns.map V.int)).map (d :: ·))=_
  rw [oI ns];rfl
theorem wu:∀ps:List (Int×Int),eD Cp (ps.map aO)=some ps
 | []=>rfl
 | p::ps=>by
  show (some p).bind (λd=>(eD Cp (ps.map aO)).map (d :: ·))=_
  rw [wu ps];rfl
theorem qv:∀ {xs:List V} {ns:List Int},eD rt xs=some ns->xs=ns.map V.int
 | [],_,e=>by cases e;rfl
 | x::xs,ns,e=>by
  obtain ⟨d,h1,h2⟩:=Option.bind_eq_some_iff.mp e
  obtain ⟨ds,h3,rfl⟩:=Option.map_eq_some_iff.mp h2
  cases x with
  | int i=>cases h1;rw [aas,qv h3]
  | _=>cases h1
theorem FK {x:V} {p:Int×Int} (e:Cp x=some p):x=aO p:=by
 cases x with
 | tup l =>
  cases l with
  | nil=>cases e
  | cons a l =>
  cases a with
  | int a =>
   cases l with
   | nil=>cases e
   | cons b l =>
   cases b with
   | int b =>
    cases l with
    | nil=>cases e;rfl
    | cons _ _=>cases e
   | _=>cases e
  | _=>cases e
 | _=>cases e
theorem yZ:∀ {xs:List V} {ps:List (Int×Int)},eD Cp xs=some ps->xs=ps.map aO
 | [],_,e=>by cases e;rfl
 | x::xs,ns,e=>by
  obtain ⟨d,h1,h2⟩:=Option.bind_eq_some_iff.mp e
  obtain ⟨ds,h3,rfl⟩:=Option.map_eq_some_iff.mp h2
  rw [aas,yZ h3,FK h1]
noncomputable def bR:List V->Cm V
 | [.ref i]=>λq=>(match q.H[i]? with
  | some (.dict es)=>if es.length<1000000 then .ok (.ref q.H.length) { q with H:=q.H++[.list ((cH (es.map (·.1))).map V.int)] } else .stuck
  | some (.list xs)=>(match eD rt xs with
   | some ns=>if ns.length<1000000 then .ok (.ref q.H.length) { q with H:=q.H++[.list ((cH ns).map V.int)] } else .stuck
   | none=>(match eD Cp xs with
    | some ps=>if ps.length<1000000 then .ok (.ref q.H.length) { q with H:=q.H++[.list ((mP ps).map aO)] } else .stuck
    | none=> .stuck))
  | _=> .stuck)
 | _=> .stk
section
variable {hq:Bool} {k:Nat} {env:Env} {A:Around} {ι ι':List Addr} {q q':S} {s s':Shared} {H H':Hp} {h:Heap}
theorem o4:∀ {ns:List Int} {vs:List Value},aM ι h (ns.map V.int) vs->IntsAre vs ns
 | [],_,e=>by rw [show _=[] from e];exact .nil
 | n::ns,_,⟨v,vs',e,⟨t,r⟩,b⟩=>by subst e;subst r;exact .cons n t (o4 b)
theorem rO {h1:Heap} {vs:List Value} {out:Array Value} (hk:s.heap.StaysIn h1) :
  s.heap.StaysIn (sortedHeap (h1.push (seqObj "list" vs.toArray 0)) h1.objs.size vs out)/\ ∃e,(sortedHeap (h1.push (seqObj "list" vs.toArray 0)) h1.objs.size vs out).get? h1.objs.size=some (seqObj "list" out e):=by
 refine ⟨λb o e=> ?_,sortedHeap_at (n:=0) (aaM _ rfl)⟩
 have hb:=hk b o e
 have hlt:=Heap.lt_size hb
 rw [sortedHeap_old (Nat.ne_of_lt hlt) (by rw [size_push'];exact Nat.lt_succ_of_lt hlt)]
 exact aal _ hb
theorem aP.sortedI {ns:List Int} {T:PT Value} (R:cC A env ι q s)
  (hT:∀Q E,(∀h1 tk vs out ns',s.heap.StaysIn h1->IntsAre (Array.toList out) ns'->ns'.Perm ns->ns'.Pairwise (· <= ·)->Q (.ref h1.objs.size) { s with heap:=sortedHeap (h1.push (seqObj "list" (List.toArray vs) 0)) h1.objs.size vs out,toks:=tk })->T Q E s) :
  aP A env ι s (.ok (.ref q.H.length) { q with H:=q.H++[.list ((cH ns).map V.int)] }) (aL) T:=λQ E hQ=>by
 refine hT Q E λh1 tk vs out ns' hk hI hp hs=> ?_
 obtain ⟨st,e,he⟩:=rO (vs:=vs) (out:=out) hk
 obtain rfl:=uv hp hs
 haveI hn:s.heap.get? h1.objs.size=none:=by
  cases hx:s.heap.get? h1.objs.size with
  | none=>rfl
  | some o=>exact absurd (Heap.lt_size (hk _ _ hx)) (Nat.lt_irrefl _)
 refine hQ _ _ _ (aR.alloc R st hn ⟨out.toList,⟨e,by rw [Array.toArray_toList];exact he⟩,?_⟩) (ja R.st _)
 exact oJ hI
theorem nj:∀ {es:List (Int×V)} {kvs:List (Int×Value)},jJ ι h es kvs->kvs.map (·.1)=es.map (·.1)
 | [],_,x=>by rw [show _=[] from x];rfl
 | _::_,_,⟨v,vs',q,_,b⟩=>by subst q;simp [nj b]
theorem tI:∀ {kvs:List (Int×Value)} {vs:List Value},vs.length=kvs.length->(∀(j:Nat) (v:Value),vs[j]? = some v-> ∃k x,kvs[j]? = some (k,x)/\(intKind G.prog G.w).is k v=true)->IntsAre vs (kvs.map (·.1))
 | [],[],_,_=> .nil
 | [],_::_,e,_=>by simp at e
 | _::_,[],e,_=>by simp at e
 | (k,x)::kvs,v::vs,e,h=>by
  obtain ⟨k',x',h1,h2⟩:=h 0 v rfl
  simp at h1
  obtain ⟨rfl,rfl⟩:=h1
  obtain ⟨t,rfl⟩:=Value.isInt_shape h2
  exact .cons _ t (tI (by simpa using e) λj u hu=>by simpa using h (j+1) u (by simpa using hu))
def rY (h:Heap) (v:Value) (p:Int×Int):Prop:= ∃x t u,v= .ref x/\IsTup h x #[.int p.1 t,.int p.2 u]
theorem rY.uniq {v:Value} {p q:Int×Int} (a:rY h v p) (b:rY h v q):p=q:=by
 refine bS λY9 y9=> ?_
 obtain ⟨p1,p2⟩:=p
 obtain ⟨q1,q2⟩:=q
 obtain ⟨x,t,u,rfl,o,e1,_,m,e3⟩:=a
 obtain ⟨y,t',u',e,o',f1,_,m',f3⟩:=b
 cases e
 rw [e1] at f1
 cases f1
 rw [e3] at f3
 cases f3
 refine y9 ?_
 rfl
open Classical in
noncomputable def CJ (h:Heap) (v:Value):Int×Int:=if c:∃p,rY h v p then c.choose else (0,0)
theorem rY.val {v:Value} {p:Int×Int} (a:rY h v p):CJ h v=p:=by
 unfold CJ
 rw [dif_pos ⟨p,a⟩]
 exact rY.uniq (Exists.choose_spec (p:=rY h v) ⟨p,a⟩) a
theorem BR {E:Value->Shared->Prop}:qg G.M A E { s with heap:=h } (λx y=>dK (CJ h x.1) (CJ h y.1)) (λx=> ∃p,rY h x.1 p) (tuples' (Value.type "int" != Value.type "tuple")):=by
 refine ⟨⟨yM,Bg⟩,λ{x y st Q} hx hy hk hQ=> ?_⟩
 refine bS λY9 y9=> ?_
 obtain ⟨p,hx⟩:=hx
 obtain ⟨q,hy⟩:=hy
 rw [hx.val,hy.val] at hQ
 obtain ⟨a,t,u,ea,o,oa,_,m,od⟩:=hx
 obtain ⟨b,t',u',eb,o',ob,_,m',od'⟩:=hy
 refine y9 ?_
 rw [lt'_eq]
 refine wpS_bind (wpS_get ?_)
 rw [hk,ea,eb]
 refine wpS_bind (wpS_lift (wpAny_attempt (kat_lt oa od ob od' ?_)))
 show KatLex _ _ _ _ _ _ [(_,_),(_,_)] 0 _
 refine kat_cons (wpAny_eqBool_int (kat_go (λe1=> ?_) λe1=> ?_))
 ·refine kat_yes (kat_cons (wpAny_eqBool_int (kat_go (λe2=> ?_) λe2=> ?_)))
  ·refine kat_yes (kat_nil ⟨rfl,wpS_pure ?_⟩)
   haveI:dK p q=false:=by
    unfold dK;rw [if_pos e1,beq_iff_eq.mp e2];exact decide_eq_false (Int.lt_irrefl _)
   rw [this] at hQ
   exact hQ
  ·refine kat_no (kat_one _ _ (PySem.P.lt_int ⟨rfl,wpS_pure ?_⟩))
   haveI:dK p q=decide (p.2<q.2):=by unfold dK;rw [if_pos e1]
   rw [this] at hQ
   exact hQ
 ·refine kat_no (oneLt_int ⟨rfl,wpS_pure ?_⟩)
  haveI:dK p q=decide (p.1<q.1):=by unfold dK;rw [if_neg (by rw [e1];exact aa5)]
  rw [this] at hQ
  exact hQ
theorem ug {h':Heap} (kp:∀b xs,IsTup h b xs->IsTup h' b xs):∀ {ps:List (Int×Int)} {vs:List Value},aM ι h (ps.map aO) vs->ps=vs.map (CJ h')/\ ∀v∈vs,rY h' v (CJ h' v)/\aL ι h (aO (CJ h' v)) v
 | [],_,e=>by rw [show _=[] from e];exact ⟨rfl,λv hv=>by cases hv⟩
 | p::ps,_,⟨v,ws',rfl,hvp,hrest⟩=>by
  obtain ⟨h1,h2⟩:=ug kp hrest
  have hp:rY h' v p:=by
   refine bS λY9 y9=> ?_
   obtain ⟨x,us,rfl,ht,v1,us1,rfl,⟨t,rfl⟩,v2,us2,rfl,⟨u,rfl⟩,e⟩:=hvp
   refine y9 ?_
   rw [show us2=[] from e] at ht
   exact ⟨x,t,u,rfl,kp _ _ ht⟩
  refine ⟨by rw [aas,hp.val,<- h1],λw hw=> ?_⟩
  rcases aah.mp hw with q | q
  ·rw [q,hp.val];exact ⟨hp,hvp⟩
  ·exact h2 w q
theorem y5 {f:Value->Int×Int}:∀ {vs:List Value},(∀v∈vs,aL ι h (aO (f v)) v)->aM ι h ((vs.map f).map aO) vs
 | [],_=>xO
 | _::_,hv=>og (hv _ (.head _)) (y5 λv q=>hv v (.tail _ q))
theorem Be:∀ {vs:List Value},(∀v∈vs,∃p,rY h v p)-> ∃fs,A3 (KatTups h vs fs) (fs.length=vs.length) (∀v∈fs,∃i t,v= .int i t)
 | [],_=>⟨[],trivial,rfl,λv hv=>by cases hv⟩
 | v::vs,hv=>by
  refine bS λY9 y9=> ?_
  obtain ⟨fs,f1,f2,f3⟩:=Be λw q=>hv w (.tail _ q)
  obtain ⟨p,x,t,u,rfl,o,e1,e2,m,e3⟩:=hv v (.head _)
  refine y9 ?_
  refine ⟨.int p.1 t::fs,KatTups.cons e1 e2 e3 rfl f1,by rw [aau,aau,f2],λw hw=> ?_⟩
  rcases aah.mp hw with q | q
  ·exact ⟨_,_,q⟩
  ·exact f3 w q
theorem zK {α:Type}:∀l:List α,l.zip l=l.map λv=>(v,v)
 | []=>rfl
 | x::l=>by rw [List.zip_cons_cons,zK l];rfl
def IW (h h':Heap):Prop:= ∀b xs,IsTup h b xs->IsTup h' b xs
theorem pz {a:Addr} {vs:List Value} {n:Nat} {P:PySem.Fin->Shared->Prop} {E:Value->Shared->Prop} (ho:s.heap.get? a=some (seqObj "list" vs.toArray n))
  (ha:∀(b:Addr) (xs:Array Value),IsTup s.heap b xs->b≠a) (hl:vs.length<1000000) {lt:Heap->Keyed->Keyed->Bool} {ok:Heap->Keyed->Prop} {κ:SortKind}
  (hv:∀h,IW s.heap h-> ∀v∈vs,ok h (v,v)) (an:∀h,qg G.M A E { s with heap:=h } (lt h) (ok h) κ)
  (hk:∀h,IW s.heap h->2<=vs.length-> ∀Q:SortKind->Shared->Prop,Q κ { s with heap:=h }->wpAny G.M A (keyKind' vs.toArray) Q E { s with heap:=h })
  (hP:∀h,IW s.heap h-> ∀l:List Keyed,qf (lt h) (vs.map λv=>(v,v)) l-> ∀out:Array Value,out.toList=l.map (·.2)->P (.done (.ret .none)) { s with heap:=sortedHeap s.heap a vs out }) :
  wpAny G.M A (Builtin.«list.sort» ⟨[.ref a],[]⟩) P E s:=by
 rw [list_sort_plain]
 have hlt:a<s.heap.objs.size:=Heap.lt_size ho
 refine wpAny_bind (listItems_at ho rfl ?_)
 refine wpAny_bind (listUpdate_at ho rfl ?_)
 obtain ⟨e1,ho1⟩:∃e1,(s.heap.update a (Obj.mapSeq λ_ => #[])).get? a=some (seqObj "list" #[] e1):=⟨_,get?_update_seq ho (λ_ => #[])⟩
 refine wpAny_bind (seqEpoch_at ho1 rfl ?_)
 refine wpAny_bind (wpAny_newTuple ?_)
 refine wpAny_bind (wpAny_newList ?_)
 refine wpAny_holding ?_
 have ho6:(((s.heap.update a (Obj.mapSeq λ_ => #[])).push (seqObj "tuple" vs.toArray 0)).push (seqObj "list" #[] 0)).get? a=some (seqObj "list" #[] e1):=by
  rw [Heap.get?_push_ne _ _ _ (by rw [size_push',Heap.size_update];exact Nat.ne_of_lt (Nat.lt_succ_of_lt hlt)),Heap.get?_push_ne _ _ _ (by rw [Heap.size_update];exact Nat.ne_of_lt hlt)]
  exact ho1
 show wpAny G.M A _ P E { s with heap:=((s.heap.update a (Obj.mapSeq λ_ => #[])).push (seqObj "tuple" vs.toArray 0)).push (seqObj "list" #[] 0) }
 generalize hh6:(((s.heap.update a (Obj.mapSeq λ_ => #[])).push (seqObj "tuple" vs.toArray 0)).push (seqObj "list" #[] 0))=h6 at ho6 ⊢
 have kp:IW s.heap h6:=λb xs ht=>by
  haveI hb:=ha b xs ht
  refine bS λY9 y9=> ?_
  obtain ⟨o,e1,e2,m,e3⟩:=ht
  refine y9 ?_
  refine ⟨o,?_,e2,m,e3⟩
  rw [<- hh6]
  refine aal _ (aal _ ?_)
  rw [Heap.get?_update_ne _ _ _ _ hb];exact e1
 haveI gZ:∀out:Array Value,h6.update a (Obj.mapSeq λ_=>out)=sortedHeap s.heap a vs out:=λout=>by rw [<- hh6];rfl
 have ez:(vs.toArray.zip vs.toArray).toList=vs.map λv=>(v,v):=by rw [Array.toList_zip];exact zK vs
 dsimp only
 have run:∀st:SortSt,failedOf st=none->qf (lt h6) (vs.map λv=>(v,v)) (arrOf st).toList->wpAny G.M A (do
   let e <- seqEpoch a
   Builtin.List.listUpdate (.ref a) λ_=>(arrOf st).map (·.2)
   if let some e:=failedOf st then rule "list.sort.comparison-raised"; throw e
   if e != e1 then rule "list.sort.modified"; raiseError "ValueError" "list modified during sort"
   ret .none) P E { s with heap:=h6 }:=λst hf hm=>by
  haveI o1:(arrOf st).toList.length<1000000:=by rw [hm.2.length_eq,aak];exact hl
  refine wpAny_bind (seqEpoch_at (s:={ s with heap:=h6 }) ho6 rfl ?_)
  refine wpAny_bind (listUpdate_at (s:={ s with heap:=h6 }) ho6 rfl ?_ (hsz2:=by rw [Array.size_map,<- aa2,sizeLine_eq];exact aam (Nat.le_of_lt o1) ∅))
  rw [hf]
  simp only [bne_self_eq_false,Bool.false_eq_true,if_false]
  refine wpAny_pure ?_
  show P _ { s with heap:=h6.update a (Obj.mapSeq λ_=>(arrOf st).map (·.2)) }
  rw [gZ]
  exact hP h6 kp _ hm _ (Array.toList_map ..)
 by_cases h2:vs.toArray.size<2
 ·rw [if_pos h2,if_pos h2]
  refine wpAny_bind (wpAny_pure ?_)
  rw [StateT.run_pure]
  refine wpAny_bind (wpAny_pure ?_)
  refine run (SortSt.mk' general' (vs.toArray.zip vs.toArray) #[] 7 none) rfl ?_
  show qf (lt h6) _ (vs.toArray.zip vs.toArray).toList
  rw [ez]
  refine ⟨?_,.refl _⟩
  match vs,h2 with
  | [],_=>exact .nil
  | [_],_=>exact abe _ _
  | _::_::_,h2=>exact absurd h2 (Nat.not_lt.mpr (Nat.le_add_left _ _))
 ·rw [if_neg h2,if_neg h2]
  refine wpAny_bind (hk h6 kp (by rw [aa1] at h2;exact Nat.le_of_not_lt h2) _ ?_)
  refine wpAny_bind (wpAny_mono (CE (an h6) (W:=(vs.toArray.zip vs.toArray).toList) (st:=SortSt.mk' κ (vs.toArray.zip vs.toArray) #[] 7 none) (λx hx=> ?_) rfl rfl rfl rfl
   (Q:=λ_ st'=>failedOf st'=none/\qf (lt h6) (vs.map λv=>(v,v)) (arrOf st').toList) λc st' hf hc hm=>⟨hf,by rw [hc,<- ez];exact hm⟩) ?_ λ_ _ e=>e)
  ·rw [ez] at hx
   obtain ⟨v,hm,e⟩:=aae.mp hx
   rw [<- e];exact hv h6 kp v hm
  ·rintro ⟨⟨⟩,st'⟩ s' ⟨rfl,hf,hm⟩
   exact run st' hf hm
theorem yR {lt:Keyed->Keyed->Bool} {vs:List Value} {l:List Keyed} (hm:qf lt (vs.map λv=>(v,v)) l):(l.map (·.2)).Perm vs/\ ∀x∈l,x.1=x.2:=by
 refine ⟨?_,λx hx=> ?_⟩
 ·haveI:=hm.2.map (·.2)
  rw [aaQ,show ((λx:Keyed=>x.2)∘λv:Value=>(v,v))=id from rfl,List.map_id] at this
  exact this
 ·obtain ⟨v,_,e⟩:=aae.mp (hm.2.mem_iff.mp hx)
  rw [<- e]
theorem sd {a:Addr} {vs:List Value} {n:Nat} {P:PySem.Fin->Shared->Prop} {E:Value->Shared->Prop} {ps:List (Int×Int)} (ho:s.heap.get? a=some (seqObj "list" vs.toArray n)) (hv:aM ι s.heap (ps.map aO) vs)
  (ha:∀(b:Addr) (xs:Array Value),IsTup s.heap b xs->b≠a) (hl:vs.length<1000000)
  (hP:∀out:Array Value,aM ι s.heap ((mP ps).map aO) out.toList->P (.done (.ret .none)) { s with heap:=sortedHeap s.heap a vs out }) :
  wpAny G.M A (Builtin.«list.sort» ⟨[.ref a],[]⟩) P E s:=by
 refine pz ho ha hl (lt:=λh x y=>dK (CJ h x.1) (CJ h y.1)) (λh kp v q=>⟨_,((ug kp hv).2 v q).1⟩) (λh=>BR) (λh kp h2 Q hQ=> ?_) λh kp l hm out e=>hP out ?_
 ·refine bS λY9 y9=> ?_
  obtain ⟨fs,f1,f2,f3⟩:=Be λv q=>⟨_,((ug kp hv).2 v q).1⟩
  refine y9 ?_
  exact kat_kind (s:={ s with heap:=h }) (T:= .type "int") f1 (by rw [f2];exact aaX ∅ h2) (λv hv=>by obtain ⟨i,t,rfl⟩:=f3 v hv;exact .now) rfl hQ
 ·obtain ⟨hp2,e12⟩:=yR hm
  haveI es:(l.map (·.2)).map (CJ h)=mP ps:=by
   refine Ay (by rw [(ug kp hv).1];exact hp2.map _) ?_
   rw [aaQ]
   refine aaY.mpr (hm.1.imp_of_mem λ{x y} hx hy h=> ?_)
   show dK (CJ _ y.2) (CJ _ x.2)=false
   rw [<- e12 x hx,<- e12 y hy];exact h
  rw [<- es,e]
  exact y5 λv q=>((ug kp hv).2 v (hp2.mem_iff.mp q)).2
noncomputable def Fk:Value->Int
 | .int i _=>i
 | _=>0
theorem C4 {E:Value->Shared->Prop}:qg G.M A E s (λx y=>decide (Fk x.1<Fk y.1)) (λx=> ∃i t,x.1= .int i t) oneType':=by
 refine ⟨⟨λh=>decide_eq_false (Int.not_lt.mpr (Int.le_of_lt (of_decide_eq_true h))),λh1 h2=>decide_eq_false (Int.not_lt.mpr (aa9 (Int.not_lt.mp (of_decide_eq_false h2)) (Int.not_lt.mp (of_decide_eq_false h1))))⟩,λ{x y st Q} hx hy hk hQ=> ?_⟩
 obtain ⟨i,t,ex⟩:=hx
 obtain ⟨j,u,ey⟩:=hy
 rw [ex,ey] at hQ
 rw [lt'_eq]
 refine wpS_bind (wpS_get ?_)
 rw [hk,ex,ey]
 exact wpS_bind (wpS_lift (wpAny_attempt (oneLt_int ⟨rfl,wpS_pure hQ⟩)))
theorem Fj {vs:List Value} (h:∀v∈vs,∃i t,v= .int i t):IntsAre vs (vs.map Fk):=by
 induction vs with
 | nil=>exact .nil
 | cons v vs ih =>
  obtain ⟨i,t,rfl⟩:=h v (.head _)
  exact .cons i t (ih λw q=>h w (.tail _ q))
theorem Bb:∀ {vs:List Value} {ns:List Int},IntsAre vs ns->ns=vs.map Fk/\ ∀v∈vs,∃i t,v= .int i t
 | _,_,.nil=>⟨rfl,λv hv=>(nomatch hv)⟩
 | _,_,.cons i t h=>by
  obtain ⟨h1,h2⟩:=Bb h
  refine ⟨by rw [aas,<- h1];rfl,λw hw=> ?_⟩
  rcases aah.mp hw with q | q
  ·exact ⟨_,_,q⟩
  ·exact h2 w q
theorem mC {a:Addr} {vs:List Value} {n:Nat} {P:PySem.Fin->Shared->Prop} {E:Value->Shared->Prop} {ns:List Int} (ho:s.heap.get? a=some (seqObj "list" vs.toArray n)) (hI:IntsAre vs ns) (hl:vs.length<1000000)
  (hP:∀(out:Array Value) (ns':List Int),IntsAre out.toList ns'->ns'.Perm ns->ns'.Pairwise (· <= ·)->P (.done (.ret .none)) { s with heap:=sortedHeap s.heap a vs out }) :
  wpAny G.M A (Builtin.«list.sort» ⟨[.ref a],[]⟩) P E s:=by
 obtain ⟨e1,e2⟩:=Bb hI
 refine pz ho (λb xs ht e=> ?_) hl (lt:=λ_ x y=>decide (Fk x.1<Fk y.1)) (ok:=λ_ x=> ∃i t,x.1= .int i t) (λh kp v q=>e2 v q) (λh=>C4) (λh kp h2 Q hQ=> ?_) λh kp l hm out e=> ?_
 ·obtain ⟨o,g1,g2,_⟩:=ht
  rw [e,ho] at g1;cases g1
  exact absurd (show Value.type "list" = Value.type "tuple" from g2) ∅
 ·match vs,hI,h2 with
  | _::_::_,hI,_=>rw [keyKind_ints hI];exact wpAny_pure hQ
 ·obtain ⟨hp2,e12⟩:=yR hm
  refine hP out ((l.map (·.2)).map Fk) ?_ (by rw [e1];exact hp2.map _) ?_
  ·rw [e];exact Fj λv q=>e2 v (hp2.mem_iff.mp q)
  ·rw [aaQ]
   refine aaY.mpr (hm.1.imp_of_mem λ{x y} hx hy h=> ?_)
   show Fk x.2<=Fk y.2
   rw [<- e12 x hx,<- e12 y hy];exact Int.not_lt.mp (of_decide_eq_false h)
end
noncomputable def mQ (ns:List Int):Int:=preSum (λi=>ns.getD i 0) ns.length
theorem Cw (n:Int) (ns:List Int):mQ (n::ns)=n+mQ ns:=by
 unfold mQ
 rw [aau,kdu_shift]
 rfl
noncomputable def AA:List V->Cm V
 | [.ref i]=>λq=>(match q.H[i]? with
  | some (.list xs)=>(match eD rt xs with
   | some ns=>if ns.length<=1000000 then .ok (.int (mQ ns)) q else .stuck
   | none=> .stuck)
  | _=> .stuck)
 | _=> .stk
section
variable {hq:Bool} {k:Nat} {env:Env} {A:Around} {ι ι':List Addr} {q q':S} {s s':Shared} {H H':Hp} {h:Heap}
theorem yE {vs:List Value} {ns:List Int} (hI:IntsAre vs ns):∀(i:Nat) (v:Value),vs[i]? = some v-> ∃t,v= .int (ns.getD i 0) t:=by
 induction hI with
 | nil=>intro i v e;simp at e
 | cons n t r ih =>
  intro i v e
  cases i with
  | zero=>simp at e;exact ⟨t,by rw [<- e];rfl⟩
  | succ i=>simpa using ih i v (by simpa using e)
theorem Ij (hh:A.handled=none) (R:cC A env ι q s) {vs:List V} {cvs:List Value} (hv:aM ι s.heap vs cvs):aP A env ι s (AA vs q) (aL) (mh A (call (.builtin "sum") cvs)):=by
 cases vs with
 | nil=>trivial
 | cons v vs =>
 cases vs with
 | cons _ _=>cases v<;>trivial
 | nil =>
 cases v with
 | ref i =>
  obtain ⟨cv,_,rfl,⟨a,hi,rfl⟩,e⟩:=hv;rw [show _=[] from e]
  unfold AA;dsimp only
  cases hx:q.H[i]? with
  | none=>trivial
  | some o =>
  cases o with
  | list xs =>
   dsimp only
   cases hn:eD rt xs with
   | none=>trivial
   | some ns =>
    dsimp only
    split
    ·rename_i hl
     obtain rfl:=qv hn
     obtain ⟨a1,n1,ws,g1,g2,g3⟩:=R.st.list hx
     obtain rfl:a=a1:=Option.some.inj (hi.symm.trans g1)
     have hI:=o4 g3
     haveI hL:s.heap.IsList a ws.toArray:=⟨_,g2,rfl,n1,rfl⟩
     have hlt:a<s.heap.objs.size:=Heap.lt_size g2
     intro Q E hQ
     refine call_sum_walkAnyS (wpAny_pyIter_list hL ?_)
     refine ⟨s.heap.objs.size,_,_,_,_,_,_,λi=>ns.getD i 0,rfl,(Walks.list (prog:=G.prog) (w:=G.w) (A:=A.in1) hh s.heap.objs.size a (Nat.ne_of_lt hlt) ws.toArray).toS,⟨⟨_,aaM _ rfl,rfl,rfl⟩,⟨_,aal _ g2,rfl,n1,rfl⟩⟩,λb hb=> ?_,λi v e=> ?_,λs' t' hm=> ?_⟩
     ·show b<(s.heap.push _).objs.size
      rw [Heap.size_push]
      rcases aah.mp hb with e | hb
      ·rw [e];exact Nat.lt_succ_self _
      ·rw [aag.mp hb];exact Nat.lt_succ_of_lt hlt
     ·exact yE hI i v (by simpa using e)
     ·haveI hk:s.heap.StaysIn s'.heap:=λb o e =>
       hm.heap b o (λhI=>absurd (Heap.lt_size e) (by rw [aag.mp hI];exact Nat.lt_irrefl _)) (aal _ e)
      haveI hlen:ws.toArray.size=ns.length:=by rw [aa1,IntsAre.length hI]
      rw [Moved.eq_with hm,hlen]
      exact hQ ι _ _ (aR.stays (tk:=s'.toks) R hk) ⟨t',rfl⟩
    ·trivial
  | _=>trivial
 | _=>trivial
theorem Az {h1:Heap} {vs:List Value} {out:Array Value}:nE (h1.push (seqObj "list" vs.toArray 0)) (sortedHeap (h1.push (seqObj "list" vs.toArray 0)) h1.objs.size vs out):=λb o e hmu=>by
 by_cases hb:b=h1.objs.size
 ·subst hb
  have:(h1.push (seqObj "list" vs.toArray 0)).get? h1.objs.size=some (seqObj "list" vs.toArray 0):=aaM _ rfl
  rw [this] at e;cases e
  exact absurd (.inl ⟨"list",rfl,by decide⟩) hmu
 ·exact ⟨o.slots,by rw [sortedHeap_old hb (Heap.lt_size e)];exact e⟩
theorem rP {a:Addr} {ws:List Value} (hL:s.heap.IsList a ws.toArray) (hl:ws.length<1000000) {Q:Value->Shared->Prop} {E:Value->Shared->Prop}
  (h:∀(A':Around) (h1:Heap) (P:PySem.Fin->Shared->Prop),s.heap.StaysIn h1->h1.objs.size=s.heap.objs.size+1->(h1.push (seqObj "list" ws.toArray 0)).get? h1.objs.size=some (seqObj "list" ws.toArray 0) ->
   (∀out:Array Value,Q (.ref h1.objs.size) { s with heap:=sortedHeap (h1.push (seqObj "list" ws.toArray 0)) h1.objs.size ws out }->P (.done (.ret .none)) { s with heap:=sortedHeap (h1.push (seqObj "list" ws.toArray 0)) h1.objs.size ws out }) ->
   wpAny G.M A' (Builtin.«list.sort» ⟨[.ref h1.objs.size],[]⟩) P E { s with heap:=h1.push (seqObj "list" ws.toArray 0) }):wpAny G.M A (call (.builtin "sorted") [.ref a]) Q E s:=by
 haveI hk1:s.heap.StaysIn ((s.heap.push (seqObj "list" #[] 0)).update s.heap.objs.size (Obj.mapSeq (· ++ ws.toArray))):=λb o e=>by
  rw [Heap.get?_update_ne _ _ _ _ (Nat.ne_of_lt (Heap.lt_size e))];exact aal _ e
 haveI hs1:((s.heap.push (seqObj "list" #[] 0)).update s.heap.objs.size (Obj.mapSeq (· ++ ws.toArray))).objs.size=s.heap.objs.size+1:=by rw [Heap.size_update,size_push']
 refine Calls.call_function_entry kind_sorted plain_sorted entry_sorted (args_sorted1 _) ?_
 unfold Builtin.«sorted»
 refine wpAny_bind (m:=checkCount "sorted" 1 1 _) (wpAny_pure ?_)
 refine wpAny_bind (collect_list hL ?_ (by rw [sizeLine_eq];exact aam (Nat.le_of_lt hl) ∅))
 refine wpAny_bind (wpAny_newList ?_ (by rw [sizeLine_eq];exact aam (Nat.le_of_lt hl) ∅))
 generalize (s.heap.push (seqObj "list" #[] 0)).update s.heap.objs.size (Obj.mapSeq (· ++ ws.toArray))=h1 at hk1 hs1
 have hoL:(h1.push (seqObj "list" ws.toArray 0)).get? h1.objs.size=some (seqObj "list" ws.toArray 0):=aaM _ rfl
 show wpAny _ _ _ _ _ { s with heap:=h1.push (seqObj "list" ws.toArray 0) }
 exact wpAny_bind (wpAny_holding (wpAny_call_entry slot_list_sort ⟨_,hoL,rfl⟩ entry_list_sort (h _ h1 _ hk1 hs1 hoL λout q=>⟨_,rfl,wpAny_pure ⟨_,rfl,q⟩⟩) (args_list_sort _)))
theorem CX (C:bF G) (hh:A.handled=none) (R:cC A env ι q s) {vs:List V} {cvs:List Value} (hv:aM ι s.heap vs cvs):aP A env ι s (bR vs q) (aL) (mh A (call (.builtin "sorted") cvs)):=by
 cases vs with
 | nil=>trivial
 | cons v vs =>
 cases vs with
 | cons _ _=>cases v<;>trivial
 | nil =>
 cases v with
 | ref i =>
  obtain ⟨cv,_,rfl,⟨a,hi,rfl⟩,e⟩:=hv;rw [show _=[] from e]
  unfold bR;dsimp only
  cases hx:q.H[i]? with
  | none=>trivial
  | some o =>
  cases o with
  | dict es =>
   dsimp only
   split
   ·rename_i hl
    obtain ⟨a1,kvs,g1,g2,g3⟩:=R.st.dict hx
    obtain rfl:a=a1:=Option.some.inj (hi.symm.trans g1)
    haveI hm:=jk C R.st (aaI g1)
    have hlen:kvs.length=es.length:=by haveI:=congrArg List.length (nj g3);simpa using this
    obtain ⟨ep,hat⟩:=g2.dictAt
    refine aP.sortedI (ns:=es.map (·.1)) R λQ E hQ=> ?_
    refine Calls.call_function_entry kind_sorted plain_sorted entry_sorted (args_sorted1 _) ?_
    unfold Builtin.«sorted»
    refine wpAny_bind (m:=checkCount "sorted" 1 1 _) (wpAny_pure ?_)
    refine wpAny_bind (kdu_collect (A:=A.in1) (kdl_dict (knd:=intKind G.prog G.w) (kvs:=kvs) (ep:=ep) hm) hh hat (by rw [hlen,sizeLine_eq];exact aam (Nat.le_of_lt hl) ∅) λh1 tk acc hk hacc=> ?_)
    have hI:IntsAre acc.toList (es.map (·.1)):=by
     rw [<- nj g3]
     exact tI (by rw [aa2];exact hacc.1) λj v e=>hacc.2 j v (by rw [<- aaA];exact e)
    have hal:acc.toList.length<1000000:=by rw [aa2,hacc.1,hlen];exact hl
    refine wpAny_bind (wpAny_newList ?_ (by rw [sizeLine_eq];exact aam (Nat.le_of_lt hal) ∅))
    have hoL:(h1.push (seqObj "list" acc.toList.toArray 0)).get? h1.objs.size=some (seqObj "list" acc.toList.toArray 0):=aaM _ rfl
    refine wpAny_bind (wpAny_holding (wpAny_call_entry slot_list_sort ⟨_,hoL,rfl⟩ entry_list_sort (mC (s:={ s with heap:=h1.push (seqObj "list" acc.toList.toArray 0),toks:=tk }) hoL hI hal λout ns' a1 a2 a3=>⟨_,rfl,?_⟩) (args_list_sort _)))
    exact wpAny_pure ⟨_,rfl,hQ h1 tk acc.toList out ns' hk a1 a2 a3⟩
   ·trivial
  | list xs =>
   obtain ⟨a1,n1,ws,g1,g2,g3⟩:=R.st.list hx
   obtain rfl:a=a1:=Option.some.inj (hi.symm.trans g1)
   have hL:s.heap.IsList a ws.toArray:=⟨_,g2,rfl,n1,rfl⟩
   dsimp only
   cases hn:eD rt xs with
   | some ns =>
    dsimp only
    split
    ·rename_i hl
     obtain rfl:=qv hn
     haveI hI:=o4 g3
     have hwl:ws.length<1000000:=by rw [IntsAre.length hI];exact hl
     exact aP.sortedI (ns:=ns) R λQ E hQ=>rP hL hwl λA' h1 P hk1 hs1 hoL hP=>mC (s:={ s with heap:=h1.push (seqObj "list" ws.toArray 0) }) hoL hI hwl λout ns' a1 a2 a3=>hP out (hQ h1 s.toks ws out ns' hk1 a1 a2 a3)
    ·trivial
   | none =>
    dsimp only
    cases hp:eD Cp xs with
    | none=>trivial
    | some ps =>
     dsimp only
     split
     ·rename_i hl
      obtain rfl:=yZ hp
      have hwl:ws.length<1000000:=by rw [g3.length,aak];exact hl
      intro Q E hQ
      refine rP hL hwl λA' h1 P hk1 hs1 hoL hP=> ?_
      haveI hk2:s.heap.StaysIn (h1.push (seqObj "list" ws.toArray 0)):=λb o e=>aal _ (hk1 b o e)
      refine sd (s:={ s with heap:=h1.push (seqObj "list" ws.toArray 0) }) (ι:=ι) hoL (g3.mono (aaj _) (.of_stays hk2)) (λb xs ht e=> ?_) hwl λout hvr=>hP out ?_
      ·obtain ⟨o,e1,e2,_⟩:=ht
       rw [e,hoL] at e1;cases e1
       exact absurd (show Value.type "list" = Value.type "tuple" from e2) ∅
      ·obtain ⟨st,e,he⟩:=rO (vs:=ws) (out:=out) hk1
       haveI hn:s.heap.get? h1.objs.size=none:=aaO (by rw [hs1];exact Nat.le_succ _)
       refine hQ _ _ _ (aR.alloc (tk:=s.toks) R st hn ⟨out.toList,⟨e,by rw [Array.toArray_toList];exact he⟩,?_⟩) (ja R.st _)
       exact hvr.mono (aaz _ _) Az
     ·trivial
  | _=>trivial
 | _=>trivial
theorem Ga (_:bF G):HV true k env (.builtin "sum") AA:=⟨eS _,λ_ _ _ _ _ _ ha R hv=>Ij (ha.hd rfl) R hv⟩
theorem gh (C:bF G):HV true k env (.builtin "sorted") bR:=⟨eS _,λ_ _ _ _ _ _ ha R hv=>CX C (ha.hd rfl) R hv⟩
end
noncomputable def BY:V->V->Cm Bool
 | .ref i,.ref j=>λq=>(match q.H[i]?,q.H[j]? with
  | some (.dict es),some (.dict [])=> .ok es.isEmpty q
  | _,_=> .stuck)
 | _,_=> .stk
section
variable {hq:Bool} {k:Nat} {env:Env} {A:Around} {ι ι':List Addr} {q q':S} {s s':Shared}
theorem GQ {a b:V} {ca cb:Value} (C:bF G) (ha:∃hq k,lv hq k A env) (R:cC A env ι q s) (h1:aL ι s.heap a ca) (h2:aL ι s.heap b cb):aP A env ι s (BY a b q) C6 (mh A (compareOp .Eq ca cb)):=by
 cases a with
 | ref i =>
  cases b with
  | ref j =>
   obtain ⟨x,hi,rfl⟩:=h1
   obtain ⟨y,hj,rfl⟩:=h2
   unfold BY;dsimp only
   cases e1:q.H[i]? with
   | none=>trivial
   | some o1 =>
   cases o1 with
   | dict es =>
    cases e2:q.H[j]? with
    | none=>trivial
    | some o2 =>
    cases o2 with
    | dict fs =>
     cases fs with
     | cons _ _=>trivial
     | nil =>
      obtain ⟨a1,kvs,g1,g2,g3⟩:=R.st.dict e1
      obtain rfl:x=a1:=Option.some.inj (hi.symm.trans g1)
      obtain ⟨b1,kws,f1,f2,f3⟩:=R.st.dict e2
      obtain rfl:y=b1:=Option.some.inj (hj.symm.trans f1)
      obtain rfl:kws=[]:=f3
      have hl:kvs.length=es.length:=by haveI:=congrArg List.length (nj g3);simpa using this
      refine aP.ret0 (REL:=C6) R rfl λQ E hQ=> ?_
      refine keq_eq (r:=true) (jk C R.st (aaI g1)) (jk C R.st (aaI f1)) g2 f2 (Nat.lt_of_le_of_lt (aaK _ _) (lv.units_lt ha)) (λe=> ?_) ?_
      ·rw [List.length_eq_zero_iff.mp e];exact .nil
      ·rw [Bool.and_true]
       haveI:(kvs.length==([]:List (Int×Value)).length)=es.isEmpty:=by
        rw [hl];cases es<;>rfl
       rw [this];exact hQ
    | _=>trivial
   | _=>trivial
  | _=>trivial
 | _=>cases b<;>trivial
theorem GH (C:bF G) {l r:Expr} {pos:Pos} {m1 m2:Cm V} (h1:Ev hq k env l m1) (h2:Ev hq k env r m2) (hm:behindInMarks .Eq r=false) :
  Ev hq k env (.Compare l [.Eq] [r] pos) (m1.b λa=>m2.b λb=>(BY a b).b λx=> .p (.bool x)) :=
 λA ι q s ha R=>(aP.b (h1 A ι q s ha R) λa q' ι' b s' _ P hv=>aP.b (T':=λb' Q E s₂=>wpAny G.M A (compareOp .Eq b b') Q E s₂) (h2 A ι' q' s' ha P.rel) λa2 q2 ι2 b2 s2 _ P2 hv2 =>
  (aP.b (T':=λc Q E s=>Q c s) (GQ C ⟨_,_,ha⟩ P2.rel (P2.vrel P.rel hv) hv2) λx q3 ι3 c s3 _ P3 hc=>aP.ret0 P3.rel (hc▸uT x) λQ E hQ=>hQ)).imp λQ E x=>wpAny_Compare1 x hm
end
abbrev am:Cm (List V):=Cm.p []
abbrev ag (m:Cm V) (k:Cm (List V)):Cm (List V):=m.b λv=>k.b λw=>Cm.p (v::w)
abbrev al (i:Int):Cm V:=Cm.p (V.int i)
abbrev av (f:V->V->Cm V) (m k:Cm V):Cm V:=m.b λv=>k.b λw=>f v w
abbrev aD (m k:Cm V):Cm V:=m.b λv=>k.b λw=>aW v w
abbrev be (o:CmpOp) (m k:Cm V):Cm Bool:=m.b λv=>k.b λw=>(ew o v w).b λx=>Cm.p x
abbrev oo (o:CmpOp) (m k:Cm V):Cm V:=m.b λv=>k.b λw=>(ew o v w).b λx=>Cm.p (V.bool x)
abbrev aI (c f:String) (F:Fc) (m:Cm V) (k:Cm (List V)):Cm V:=m.b λv=>(db c f v).b λ_=>k.b λw=>bA F (v::w)
abbrev wK (d:Bool) (f:V->V->Cm V) (m k:Cm V):Cm V:=m.b λv=>(fQ v).b λx=>if x=d then k.b λw=>f v w else Cm.stk
abbrev d9 (b:Bool):Cm Bool:=Cm.p (!b)
abbrev aC {α:Type} (k n:Cm α) (b:Bool):Cm α:=if b then k else n
abbrev aV (v:V):Cm Fl:=Cm.p (Fl.ret v)
abbrev cn:Cm Fl:=Cm.p Fl.next
abbrev aH (x:String) (v:V):Cm Fl:=(aY x v).b λ_=>Cm.p Fl.next
abbrev ju (k n:Cm V) (v:V):Cm Fl:=k.b λw=>n.b λu=>(bL w u v).b λ_=>Cm.p Fl.next
abbrev uZ (_:V):Cm Fl:=Cm.p Fl.next
noncomputable abbrev ft (f:V->Cm Unit) (k:Cm Fl) (i:It):Cm Fl:=dD i.g f k i.xs
abbrev nG (x:String) (v:Option Value):Prop:=nsIn G.K mainGlobals (Str.ofString x)=some v
noncomputable def JR (K:Frag) (fd:FuncData) (ps:List String):Bool :=
 codeIn K fd.code fd.qualname&&(fd.closure.isEmpty&&(decide (fd.globals=mainGlobals)&&(decide (fd.builtins=builtinsNs)&&(decide (∀x∈ps,fd.scope.names.lookup (Str.ofString x)=some .local\/fd.scope.names.lookup (Str.ofString x)=some .cell)&&(decide ps.Nodup&&(decide ((cellsFrom 0 fd.scope.names []).map (·.1)).Nodup&&(!fd.scope.isCoroutine&&(!fd.scope.isGenerator&&decide (fd.scope.kind= .function)))))))))
theorem jD {K:Frag} {f:Addr} {fd:FuncData} {ps:List String} {body:List Stmt} (a:∃oc od sl,K.lookup f=some ⟨oc,od,.func fd,sl⟩) (b:∀vals,vals.length=ps.length->bindArgs fd ⟨vals,[]⟩=pure (rZ ps vals)) (h:JR K fd ps=true) (e:fd.body= .stmts body):AL K f fd ps body :=
 have h1:=aaN.mp h
 have h2:=aaN.mp h1.2
 have h3:=aaN.mp h2.2
 have h4:=aaN.mp h3.2
 have h5:=aaN.mp h4.2
 have h6:=aaN.mp h5.2
 have h7:=aaN.mp h6.2
 have h8:=aaN.mp h7.2
 have h9:=aaN.mp h8.2
 ⟨a,h1.1,e,List.isEmpty_iff.mp h2.1,of_decide_eq_true h3.1,of_decide_eq_true h4.1,b,of_decide_eq_true h5.1,of_decide_eq_true h6.1,of_decide_eq_true h7.1,(Bool.not_eq_true' _).mp h8.1,(Bool.not_eq_true' _).mp h9.1,of_decide_eq_true h9.2⟩
theorem BT {P:List Value->Prop} (h:∀a0,P [a0]):∀vs:List Value,vs.length=1->P vs:=λ_ e=>let ⟨a0,q⟩:=ID e;q▸h a0
theorem zQ {P:List Value->Prop} (h:∀a0 a1,P [a0,a1]):∀vs:List Value,vs.length=2->P vs:=λ_ e=>let ⟨a0,a1,q⟩:=IE e;q▸h a0 a1
theorem Gf {P:List Value->Prop} (h:∀a0 a1 a2,P [a0,a1,a2]):∀vs:List Value,vs.length=3->P vs:=λ_ e=>let ⟨a0,a1,a2,q⟩:=IF e;q▸h a0 a1 a2
theorem HY {P:List Value->Prop} (h:∀a0 a1 a2 a3,P [a0,a1,a2,a3]):∀vs:List Value,vs.length=4->P vs:=λ_ e=>let ⟨a0,a1,a2,a3,q⟩:=IG e;q▸h a0 a1 a2 a3
theorem JQ {P:List Value->Prop} (h:∀a0 a1 a2 a3 a4,P [a0,a1,a2,a3,a4]):∀vs:List Value,vs.length=5->P vs:=λ_ e=>let ⟨a0,a1,a2,a3,a4,q⟩:=Jk e;q▸h a0 a1 a2 a3 a4
section
theorem oQ:nG "BadPlan" (some (.ref 37)):=by kernel_rfl
theorem Ao:nG "BadWish" (some (.ref 49)):=by kernel_rfl
theorem uc:nG "MOST_LENGTH" (some (.int 60 568)):=by kernel_rfl
theorem ve:nG "MOST_PAGES" (some (.int 40 566)):=by kernel_rfl
theorem vf:nG "MOST_SIZES" (some (.int 8 570)):=by kernel_rfl
theorem qE:nG "NoRoom" (some (.ref 85)):=by kernel_rfl
theorem Cl:nG "NoSize" (some (.ref 73)):=by kernel_rfl
theorem qF:nG "NotOut" (some (.ref 97)):=by kernel_rfl
theorem nW:nG "OutOfThing" (some (.ref 109)):=by kernel_rfl
theorem FD:nG "Plan" (some (.ref 335)):=by kernel_rfl
theorem Bk:nG "Room" (some (.ref 286)):=by kernel_rfl
theorem DQ:nG "Shelf" (some (.ref 164)):=by kernel_rfl
theorem jl:nG "TooLarge" (some (.ref 61)):=by kernel_rfl
theorem Bl:nG "bool" none:=by kernel_rfl
theorem pJ:nG "enumerate" none:=by kernel_rfl
theorem DR:nG "int" none:=by kernel_rfl
theorem cU:nG "isinstance" none:=by kernel_rfl
theorem xo:nG "list" none:=by kernel_rfl
theorem fH:nG "range" none:=by kernel_rfl
theorem DS:nG "tuple" none:=by kernel_rfl
theorem Bc:oK G.K "int" = true:=by kernel_rfl
theorem yH:oK G.K "bool" = true:=by kernel_rfl
theorem yI:oK G.K "list" = true:=by kernel_rfl
theorem Cb:oK G.K "tuple" = true:=by kernel_rfl
theorem ng:oh G.K 37=true:=by kernel_rfl
theorem zJ:oh G.K 49=true:=by kernel_rfl
theorem xR:oh G.K 61=true:=by kernel_rfl
theorem AH:oh G.K 73=true:=by kernel_rfl
theorem uW:oh G.K 85=true:=by kernel_rfl
theorem o7:oh G.K 97=true:=by kernel_rfl
theorem uX:oh G.K 109=true:=by kernel_rfl
theorem Aj:keepIn G.K (.ref 164)=true:=by kernel_rfl
theorem yO:makesIn G.K 164=true:=by kernel_rfl
theorem Ae:findIn G.K (.ref 164) "__init__" = some (some (.ref 125)):=by kernel_rfl
theorem wn:keepIn G.K (.ref 286)=true:=by kernel_rfl
theorem tV:makesIn G.K 286=true:=by kernel_rfl
theorem wl:findIn G.K (.ref 286) "__init__" = some (some (.ref 182)):=by kernel_rfl
theorem Ce:keepIn G.K (.ref 335)=true:=by kernel_rfl
theorem Al:makesIn G.K 335=true:=by kernel_rfl
theorem B9:findIn G.K (.ref 335) "__init__" = some (some (.ref 318)):=by kernel_rfl
theorem iK:cc G.K 286 187 (Str.ofString "pile")=true:=by kernel_rfl
theorem eY:cc G.K 286 204 (Str.ofString "begin")=true:=by kernel_rfl
theorem lA:cc G.K 164 140 (Str.ofString "gone")=true:=by kernel_rfl
theorem qB:cc G.K 286 278 (Str.ofString "things")=true:=by kernel_rfl
theorem c7:cc G.K 164 130 (Str.ofString "out")=true:=by kernel_rfl
theorem cJ:cc G.K 286 192 (Str.ofString "empty_pages")=true:=by kernel_rfl
theorem tY:cc G.K 286 237 (Str.ofString "trim")=true:=by kernel_rfl
theorem iJ:cc G.K 335 325 (Str.ofString "size_for")=true:=by kernel_rfl
theorem jC:cc G.K 335 332 (Str.ofString "per")=true:=by kernel_rfl
theorem sf:cc G.K 286 218 (Str.ofString "fresh")=true:=by kernel_rfl
theorem fG:cc G.K 286 197 (Str.ofString "of_size")=true:=by kernel_rfl
theorem gR:cc G.K 164 135 (Str.ofString "free")=true:=by kernel_rfl
theorem lB:cc G.K 164 147 (Str.ofString "take")=true:=by kernel_rfl
theorem tZ:cc G.K 286 225 (Str.ofString "wish")=true:=by kernel_rfl
theorem mK:cc G.K 164 154 (Str.ofString "has")=true:=by kernel_rfl
theorem lz:cc G.K 286 211 (Str.ofString "found")=true:=by kernel_rfl
theorem mI:cc G.K 286 249 (Str.ofString "cell")=true:=by kernel_rfl
theorem gQ:cc G.K 286 263 (Str.ofString "write")=true:=by kernel_rfl
theorem sg:cc G.K 286 273 (Str.ofString "moved")=true:=by kernel_rfl
theorem qA:cc G.K 286 268 (Str.ofString "gather")=true:=by kernel_rfl
theorem oO:cc G.K 286 242 (Str.ofString "room_for")=true:=by kernel_rfl
theorem sj:cc G.K 164 161 (Str.ofString "give")=true:=by kernel_rfl
theorem nB:cc G.K 286 230 (Str.ofString "give_back")=true:=by kernel_rfl
theorem mJ:cc G.K 286 256 (Str.ofString "read")=true:=by kernel_rfl
end
section
theorem iE:rV "cells" := ig (L:=kg) (λ_=>rfl) ∅
theorem gx:rV "length" := ig (L:=kg) (λ_=>rfl) ∅
theorem wi:rV "page" := ig (L:=kg) (λ_=>rfl) ∅
theorem tG:rV "pages" := ig (L:=kg) (λ_=>rfl) ∅
theorem dX:rV "plan" := ig (L:=kg) (λ_=>rfl) ∅
theorem aN:rV "racks" := ig (L:=kg) (λ_=>rfl) ∅
theorem dt:rV "size" := ig (L:=kg) (λ_=>rfl) ∅
theorem tH:rV "sizes" := ig (L:=kg) (λ_=>rfl) ∅
theorem df:rV "taken" := ig (L:=kg) (λ_=>rfl) ∅
theorem zY:rW "cells" := ii (L:=kg) (λ_=>rfl) ∅
theorem yC:rW "length" := ii (L:=kg) (λ_=>rfl) ∅
theorem B3:rW "page" := ii (L:=kg) (λ_=>rfl) ∅
theorem zZ:rW "pages" := ii (L:=kg) (λ_=>rfl) ∅
theorem B7:rW "plan" := ii (L:=kg) (λ_=>rfl) ∅
theorem Aa:rW "racks" := ii (L:=kg) (λ_=>rfl) ∅
theorem B8:rW "size" := ii (L:=kg) (λ_=>rfl) ∅
theorem Ab:rW "sizes" := ii (L:=kg) (λ_=>rfl) ∅
theorem Ac:rW "taken" := ii (L:=kg) (λ_=>rfl) ∅
abbrev FX (k:Nat) (f:Addr) (F:Fc):Prop:=b7 true k f F
variable (C:bF G)
include C
def Cz:Cm Fl:=((((af "number").b (po "int")).b λv7=>(bz v7).b λb8=>if b8 then (((af "number").b (po "bool")).b λv5=>(bz v5).b λb6=>Cm.p (V.bool (!b6))) else Cm.p v7).b aV)
def Fx:Cm Fl:=(Cz)
def pi:Fc:=ie ["number"] (Fx)
theorem xD:FX 1 297 (pi) :=
 b7.of C (k:=0) (jD ⟨_,_,_,rfl⟩ (BT λ_=>∅) ∅ rfl) λL =>
 (ar (aU (iw (qh (s8 C Bc ∅ cU ∅ DR ∅ ∅ ∅ aa ∅ ∅) (oj (Gb (s8 C yH ∅ cU ∅ Bl ∅ ∅ ∅ aa ∅ ∅)))))))
def zk:Cm Fl:=((((ag (af "number") am).b (bA (pi))).b λv9=>(bz v9).b λb10=>if b10 then ((af "least").b λv4=>(af "number").b λv5=>(ew .LtE v4 v5).b λx6=>if x6 then (af "most").b λv7=>(ew .LtE v5 v7).b λx8=>Cm.p (V.bool x8) else Cm.p (V.bool false)) else Cm.p v9).b aV)
def wp:Cm Fl:=(zk)
def jP:Fc:=ie ["number", "least", "most"] (wp)
theorem qO:FX 2 304 (jP) :=
 b7.of C (k:=1) (jD ⟨_,_,_,rfl⟩ (Gf λ_ _ _=>∅) ∅ rfl) λL =>
 (ar (aU (iw (qh (bG C (xD C) (ae aa ai) ∅ ∅ ∅ ∅ ∅ ∅) (oj (CO C aa aa aa ∅))))))
def vn:Cm Fl:=((((((ag (af "pages") (ag (al 1) (ag (al 40) am))).b (bA (jP))).b bz).b d9).b (aC (Cm.p true) (((((ag (af "length") (ag (al 1) (ag (al 60) am))).b (bA (jP))).b bz).b d9).b (aC (Cm.p true) (Cm.p false))))).b (aC ((ag (Cm.p (V.str "pages or their length")) am).b λ_=>fY "BadPlan") cn))
def vo:Cm Fl:=((((((af "sizes").b (po "list")).b bz).b d9).b (aC (Cm.p true) ((((al 1).b λv31=>((ag (af "sizes") am).b (dw)).b λv32=>(ew .LtE v31 v32).b λx33=>if x33 then (al 8).b λv34=>(ew .LtE v32 v34).b λx35=>Cm.p x35 else Cm.p false).b d9).b (aC (Cm.p true) (Cm.p false))))).b (aC ((ag (Cm.p (V.str "a list of sizes")) am).b λ_=>fY "BadPlan") cn))
def vp:Cm Fl:=((al 0).b (aH "last"))
def nF:Cm Fl:=(ay (((((ag (af "size") (ag (av cY (af "last") (al 1)) (ag (af "length") am))).b (bA (jP))).b bz).b d9).b (aC ((ag (Cm.p (V.str "sizes rise up to the length")) am).b λ_=>fY "BadPlan") cn)) ((af "size").b (aH "last")))
def vq:Cm Fl:=(((af "sizes").b (eA)).b (ft (aY "size") (nF)))
def vr:Cm Fl:=((af "pages").b λv60=>(af "self").b λv61=>(bT "pages" v60 v61).b λ_=>Cm.p Fl.next)
def vv:Cm Fl:=((af "length").b λv62=>(af "self").b λv63=>(bT "length" v62 v63).b λ_=>Cm.p Fl.next)
def vw:Cm Fl:=(((ag (af "sizes") am).b (ji)).b λv67=>(af "self").b λv68=>(bT "sizes" v67 v68).b λ_=>Cm.p Fl.next)
def ry:Cm Fl:=(ay (vn) (ay (vo) (ay (vp) (ay (vq) (ay (vr) (ay (vv) (vw)))))))
def jg:Fc:=ie ["self", "pages", "length", "sizes"] (ry)
theorem zd:FX 3 318 (jg) :=
 b7.of C (k:=2) (jD ⟨_,_,_,rfl⟩ (HY λ_ _ _ _=>∅) ∅ rfl) λL =>
 (aj (cu (du (cW (d7 (d8 (bG C (qO C) (ae aa (ae aq (ae (zM C ∅ ve ∅) ai))) ∅ ∅ ∅ ∅ ∅ ∅))) (cW (d7 (d8 (bG C (qO C) (ae aa (ae aq (ae (zM C ∅ uc ∅) ai))) ∅ ∅ ∅ ∅ ∅ ∅))) fS))) (ar (eK C rfl ∅ oQ ∅ ng ∅ (ae lw ai) ∅ ∅ (by intro q vs q' h;cases h;decide))) aQ) (aj (cu (du (cW (d7 (d8 (s8 C yI ∅ cU ∅ xo ∅ ∅ ∅ aa ∅ ∅))) (cW (d7 (CY C aq (cD C (ae aa ai) (fO C) ∅ ∅ ∅ ∅ ∅ ∅) (zM C ∅ vf ∅) ∅)) fS))) (ar (eK C rfl ∅ oQ ∅ ng ∅ (ae lw ai) ∅ ∅ (by intro q vs q' h;cases h;decide))) aQ) (aj (au aq ) (aj (fq (cE C (.name _ _) aa) bJ (aj (cu (d7 (d8 (bG C (qO C) (ae aa (ae (aw C aa aq cV) (ae aa ai))) ∅ ∅ ∅ ∅ ∅ ∅))) (ar (eK C rfl ∅ oQ ∅ ng ∅ (ae lw ai) ∅ ∅ (by intro q vs q' h;cases h;decide))) aQ) (ar (au aa ))) (λ_=>rfl)) (aj (dN C zZ aa aa rfl) (aj (dN C yC aa aa rfl) (ar (dN C Ab (cD C (ae aa ai) (CL C) ∅ ∅ ∅ ∅ ∅ ∅) aa rfl))))))))
def vA:Cm Fl:=((af "plan").b λv1=>(af "self").b λv2=>(bT "plan" v1 v2).b λ_=>Cm.p Fl.next)
def vB:Cm Fl:=(u9.b λv3=>(af "self").b λv4=>(bT "racks" v3 v4).b λ_=>Cm.p Fl.next)
def vC:Cm Fl:=((av gB ((ag (al 0) am).b fN) (av gB ((af "plan").b (aA "pages")) ((af "plan").b (aA "length")))).b λv14=>(af "self").b λv15=>(bT "cells" v14 v15).b λ_=>Cm.p Fl.next)
def rz:Cm Fl:=(ay (vA) (ay (vB) (vC)))
def gm:Fc:=ie ["self", "plan"] (rz)
theorem rL:FX 1 182 (gm) :=
 b7.of C (k:=0) (jD ⟨_,_,_,rfl⟩ (zQ λ_ _=>∅) ∅ rfl) λL =>
 (aj (dN C B7 aa aa rfl) (aj (dN C Aa sK aa rfl) (ar (dN C zY (aw C (fo (ae aq ai)) (aw C (aB C tG aa) (aB C gx aa) rc) rc) aa rfl))))
def nL:Cm V:=cP ["self"] ((ag (((af "self").b (aA "plan")).b (aA "pages")) am).b dh) (aY "page") (be .NotIn (af "page") ((af "self").b (aA "racks"))) (af "page")
def vD:Cm Fl:=((nL).b aV)
def rA:Cm Fl:=(vD)
def gn:Fc:=ie ["self"] (rA)
theorem mO:FX 1 187 (gn) :=
 b7.of C (k:=0) (jD ⟨_,_,_,rfl⟩ (BT λ_=>∅) ∅ rfl) λL =>
 (ar (aU (gG ["self"] ∅ ∅ (jc C ∅ fH (ae (aB C tG (aB C dX aZ)) ai) ∅) (λ_=>bJ) (eP ∅) (λ_=>(j6 (bh C aa (aB C aN aZ)))) (λ_=>aa) (λ_=>rfl))))
def uy:Cm Fl:=((av cY (av gB ((af "shelf").b (aA "page")) (((af "self").b (aA "plan")).b (aA "length"))) (av gB (af "slot") ((af "shelf").b (aA "size")))).b aV)
def pA:Cm Fl:=(uy)
def dR:Fc:=ie ["self", "shelf", "slot"] (pA)
theorem ik:FX 1 204 (dR) :=
 b7.of C (k:=0) (jD ⟨_,_,_,rfl⟩ (Gf λ_ _ _=>∅) ∅ rfl) λL =>
 (ar (aU (aw C (aw C (aB C wi aa) (aB C gx (aB C dX aa)) rc) (aw C aa (aB C dt aa) rc) cV)))
def mq:Cm V:=cP [] ((ag ((af "self").b (aA "taken")) am).b (nO)) (ww "slot" "one") ((af "one").b bz) (af "slot")
def uK:Cm Fl:=((mq).b aV)
def pE:Cm Fl:=(uK)
def hZ:Fc:=ie ["self"] (pE)
theorem pQ:FX 1 140 (hZ) :=
 b7.of C (k:=0) (jD ⟨_,_,_,rfl⟩ (BT λ_=>∅) ∅ rfl) λL =>
 (ar (aU (gG [] ∅ ∅ (CS C rfl ∅ pJ (ae (aB C df aa) ai) ∅) (λ_=>(CK rfl (.inl ∅) (.inl ∅))) (AS ∅ ∅) (λ_=>(j6 (d8 aa))) (λ_=>aa) (λ_=>rfl))))
def lI:Cm Fl:=((am.b fN).b (aH "found"))
def eQ:Cm V:=cP ["shelf", "self"] ((aI "Shelf" "gone" (hZ) (af "shelf") am).b (eA)) (aY "slot") (Cm.p true) ((ag (aI "Room" "begin" (dR) (af "self") (ag (af "shelf") (ag (af "slot") am))) (ag ((af "shelf").b (aA "size")) am)).b sk)
def lx:Cm Fl:=(ay ((aD ((af "self").b (aA "racks")) (af "page")).b (aH "shelf")) ((av cY (af "found") (eQ)).b (aH "found")))
def sB:Cm Fl:=((((ag ((af "self").b (aA "racks")) am).b bR).b (eA)).b (ft (aY "page") (lx)))
def sC:Cm Fl:=((af "found").b aV)
def nS:Cm Fl:=(ay (lI) (ay (sB) (sC)))
def jy:Fc:=ie ["self"] (nS)
theorem vj:FX 2 278 (jy) :=
 b7.of C (k:=1) (jD ⟨_,_,_,rfl⟩ (BT λ_=>∅) ∅ rfl) λL =>
 (aj (au (fo ai) ) (aj (fq (cE C (.name _ _) (cD C (ae (aB C aN aZ) ai) (gh C) ∅ ∅ ∅ ∅ ∅ ∅)) bJ (aj (au (aT C (aB C aN aZ) aa) (.inr ⟨∅,∅⟩)) (ar (au (aw C aa (gG ["shelf", "self"] ∅ ∅ (cE C (.name _ _) (aK C lA (pQ C) aZ ai ∅ ∅ rfl rfl ∅ ∅)) (λ_=>bJ) (eP ∅) (λ_=>ti) (λ_=>(nh (ae (aK C eY (ik C) aZ (ae aZ (ae aa ai)) ∅ ∅ rfl rfl ∅ ∅) (ae (aB C dt aZ) ai)))) (λ_=>rfl)) cV) ))) (λ_=>rfl)) (ar (aU aa))))
def lJ:Cm Fl:=((be .GtE (af "_law_k") ((ag (af "_law_script") am).b (dw))).b (aC ((al 0).b aV) cn))
def lK:Cm Fl:=((be .GtE ((ag (aD (af "_law_script") (af "_law_k")) am).b C2) (av oR (al 10) (al 60))).b (aC ((av bw (aD (af "_law_script") (af "_law_k")) (av oR (al 10) (al 60))).b aV) cn))
def sD:Cm Fl:=((aD (af "_law_script") (af "_law_k")).b aV)
def ge:Cm Fl:=(ay (lJ) (ay (lK) (sD)))
def cq:Fc:=ie ["_law_script", "_law_k"] (ge)
theorem eE:FX 1 346 (cq) :=
 b7.of C (k:=0) (jD ⟨_,_,_,rfl⟩ (zQ λ_ _=>∅) ∅ rfl) λL =>
 (aj (cu (bh C aa (cD C (ae aa ai) (fO C) ∅ ∅ ∅ ∅ ∅ ∅)) (ar (aU aq)) aQ) (aj (cu (bh C (cD C (ae (aT C aa aa) ai) (Ib C) ∅ ∅ ∅ ∅ ∅ ∅) (aw C aq aq vV)) (ar (aU (aw C (aT C aa aa) (aw C aq aq vV) bK))) aQ) (ar (aU (aT C aa aa)))))
def nN:Cm V:=cP [] (((af "self").b (aA "taken")).b (eA)) (aY "one") ((af "one").b bz) (af "one")
def vI:Cm Fl:=(((ag (nN) am).b (dw)).b aV)
def rE:Cm Fl:=(vI)
def bQ:Fc:=ie ["self"] (rE)
theorem fk:FX 1 130 (bQ) :=
 b7.of C (k:=0) (jD ⟨_,_,_,rfl⟩ (BT λ_=>∅) ∅ rfl) λL =>
 (ar (aU (cD C (ae (gG [] ∅ ∅ (cE C (.name _ _) (aB C df aa)) (λ_=>bJ) (eP ∅) (λ_=>(j6 (d8 aa))) (λ_=>aa) (λ_=>rfl)) ai) (fO C) ∅ ∅ ∅ ∅ ∅ ∅)))
def ml:Cm V:=cP ["self"] (((ag ((af "self").b (aA "racks")) am).b bR).b (eA)) (aY "page") (be .Eq (aI "Shelf" "out" (bQ) (aD ((af "self").b (aA "racks")) (af "page")) am) (al 0)) (af "page")
def mR:Cm Fl:=((ml).b aV)
def iH:Cm Fl:=(mR)
def bV:Fc:=ie ["self"] (iH)
theorem dk:FX 2 192 (bV) :=
 b7.of C (k:=1) (jD ⟨_,_,_,rfl⟩ (BT λ_=>∅) ∅ rfl) λL =>
 (ar (aU (gG ["self"] ∅ ∅ (cE C (.name _ _) (cD C (ae (aB C aN aZ) ai) (gh C) ∅ ∅ ∅ ∅ ∅ ∅)) (λ_=>bJ) (eP ∅) (λ_=>(j6 (bh C (aK C c7 (fk C) (aT C (aB C aN aZ) aa) ai ∅ ∅ rfl rfl ∅ ∅) aq))) (λ_=>aa) (λ_=>rfl))))
def nY:Cm Fl:=((aI "Room" "empty_pages" (bV) (af "self") am).b (aH "pages"))
def nH:Cm Fl:=((wK false ly ((af "self").b (aA "racks")) (af "page")).b uZ)
def vF:Cm Fl:=(((af "pages").b (eA)).b (ft (aY "page") (nH)))
def vG:Cm Fl:=(((ag (af "pages") am).b (dw)).b aV)
def rC:Cm Fl:=(ay (nY) (ay (vF) (vG)))
def mx:Fc:=ie ["self"] (rC)
theorem ze:FX 3 237 (mx) :=
 b7.of C (k:=2) (jD ⟨_,_,_,rfl⟩ (BT λ_=>∅) ∅ rfl) λL =>
 (aj (au (aK C cJ (dk C) aa ai ∅ ∅ rfl rfl ∅ ∅) ) (aj (fq (cE C (.name _ _) aa) bJ (ar (jt (q6 C false pe (tf C) (aB C aN aa) aa rfl rfl ∅ ∅ ∅) rfl rfl)) (λ_=>rfl)) (ar (aU (cD C (ae aa ai) (fO C) ∅ ∅ ∅ ∅ ∅ ∅)))))
def jo:Cm Fl:=((((((ag (af "wish") am).b (bA (pi))).b bz).b d9).b (aC (Cm.p true) ((be .Lt (af "wish") (al 1)).b (aC (Cm.p true) (Cm.p false))))).b (aC ((ag (Cm.p (V.str "a wish is from 1 on")) am).b λ_=>fY "BadWish") cn))
def fv:Cm Fl:=((be .GtE (af "size") (af "wish")).b (aC ((af "size").b aV) cn))
def jp:Cm Fl:=((((af "self").b (aA "sizes")).b (eA)).b (ft (aY "size") (fv)))
def pV:Cm Fl:=((ag (Cm.p (V.str "beyond the greatest size")) am).b λ_=>fY "TooLarge")
def eX:Cm Fl:=(ay (jo) (ay (jp) (pV)))
def eU:Fc:=ie ["self", "wish"] (eX)
theorem lC:FX 2 325 (eU) :=
 b7.of C (k:=1) (jD ⟨_,_,_,rfl⟩ (zQ λ_ _=>∅) ∅ rfl) λL =>
 (aj (cu (du (cW (d7 (d8 (bG C (xD C) (ae aa ai) ∅ ∅ ∅ ∅ ∅ ∅))) (cW (bh C aa aq) fS))) (ar (eK C rfl ∅ Ao ∅ zJ ∅ (ae lw ai) ∅ ∅ (by intro q vs q' h;cases h;decide))) aQ) (aj (fq (cE C (.name _ _) (aB C tH aa)) bJ (ar (cu (bh C aa aa) (ar (aU aa)) aQ)) (λ_=>rfl)) (ar (eK C rfl ∅ jl ∅ xR ∅ (ae lw ai) ∅ ∅ (by intro q vs q' h;cases h;decide)))))
def xI:Cm Fl:=((((((ag (af "size") am).b (bA (pi))).b bz).b d9).b (aC (Cm.p true) ((be .NotIn (af "size") ((af "self").b (aA "sizes"))).b (aC (Cm.p true) (Cm.p false))))).b (aC ((ag (Cm.p (V.str "no such size")) am).b λ_=>fY "NoSize") cn))
def xJ:Cm Fl:=((av dq ((af "self").b (aA "length")) (af "size")).b aV)
def oN:Cm Fl:=(ay (xI) (xJ))
def fU:Fc:=ie ["self", "size"] (oN)
theorem oS:FX 2 332 (fU) :=
 b7.of C (k:=1) (jD ⟨_,_,_,rfl⟩ (zQ λ_ _=>∅) ∅ rfl) λL =>
 (aj (cu (du (cW (d7 (d8 (bG C (xD C) (ae aa ai) ∅ ∅ ∅ ∅ ∅ ∅))) (cW (bh C aa (aB C tH aa)) fS))) (ar (eK C rfl ∅ Cl ∅ AH ∅ (ae lw ai) ∅ ∅ (by intro q vs q' h;cases h;decide))) aQ) (ar (aU (aw C (aB C gx aa) aa fg))))
def uL:Cm Fl:=((af "page").b λv1=>(af "self").b λv2=>(bT "page" v1 v2).b λ_=>Cm.p Fl.next)
def uM:Cm Fl:=((af "size").b λv3=>(af "self").b λv4=>(bT "size" v3 v4).b λ_=>Cm.p Fl.next)
def uN:Cm Fl:=((av gB ((ag (Cm.p (V.bool false)) am).b fN) (af "slots")).b λv10=>(af "self").b λv11=>(bT "taken" v10 v11).b λ_=>Cm.p Fl.next)
def pF:Cm Fl:=(ay (uL) (ay (uM) (uN)))
def ic:Fc:=ie ["self", "page", "size", "slots"] (pF)
theorem xC:FX 1 125 (ic) :=
 b7.of C (k:=0) (jD ⟨_,_,_,rfl⟩ (HY λ_ _ _ _=>∅) ∅ rfl) λL =>
 (aj (dN C B3 aa aa rfl) (aj (dN C B8 aa aa rfl) (ar (dN C Ac (aw C (fo (ae cT ai)) aa rc) aa rfl))))
def mS:Cm Fl:=((aI "Room" "pile" (gn) (af "self") am).b (aH "pages"))
def iT:Cm Fl:=((be .Eq (af "pages") (am.b fN)).b (aC ((aI "Room" "empty_pages" (bV) (af "self") am).b (aH "pages")) cn))
def fL:Cm Fl:=((be .Eq (af "pages") (am.b fN)).b (aC ((ag (Cm.p (V.str "no page is free")) am).b λ_=>fY "NoRoom") cn))
def mT:Cm Fl:=(((ag (aD (af "pages") (al 0)) (ag (af "size") (ag (aI "Plan" "per" (fU) ((af "self").b (aA "plan")) (ag (af "size") am)) am))).b (mG "Shelf" (ic))).b (ju ((af "self").b (aA "racks")) (aD (af "pages") (al 0))))
def mU:Cm Fl:=((aD ((af "self").b (aA "racks")) (aD (af "pages") (al 0))).b aV)
def ij:Cm Fl:=(ay (mS) (ay (iT) (ay (fL) (ay (mT) (mU)))))
def hY:Fc:=ie ["self", "size"] (ij)
theorem xz:FX 3 218 (hY) :=
 b7.of C (k:=2) (jD ⟨_,_,_,rfl⟩ (zQ λ_ _=>∅) ∅ rfl) λL =>
 (aj (au (aK C iK (mO C) aa ai ∅ ∅ rfl rfl ∅ ∅) ) (aj (cu (bh C aa (fo ai)) (ar (au (aK C cJ (dk C) aa ai ∅ ∅ rfl rfl ∅ ∅) )) aQ) (aj (cu (bh C aa (fo ai)) (ar (eK C rfl ∅ qE ∅ uW ∅ (ae lw ai) ∅ ∅ (by intro q vs q' h;cases h;decide))) aQ) (aj (dr C (wH C ∅ DQ Aj ∅ ∅ yO Ae ∅ (xC C) ∅ (ae (aT C aa aq) (ae aa (ae (aK C jC (oS C) (aB C dX aa) (ae aa ai) ∅ ∅ rfl rfl ∅ ∅) ai))) ∅) (aB C aN aa) (aT C aa aq) rfl) (ar (aU (aT C (aB C aN aa) (aT C aa aq))))))))
def jN:Cm V:=cP ["size", "self"] (((ag ((af "self").b (aA "racks")) am).b bR).b (eA)) (aY "page") (be .Eq ((aD ((af "self").b (aA "racks")) (af "page")).b (aA "size")) (af "size")) (af "page")
def jZ:Cm Fl:=((jN).b aV)
def iI:Cm Fl:=(jZ)
def cZ:Fc:=ie ["self", "size"] (iI)
theorem iQ:FX 1 197 (cZ) :=
 b7.of C (k:=0) (jD ⟨_,_,_,rfl⟩ (zQ λ_ _=>∅) ∅ rfl) λL =>
 (ar (aU (gG ["size", "self"] ∅ ∅ (cE C (.name _ _) (cD C (ae (aB C aN aZ) ai) (gh C) ∅ ∅ ∅ ∅ ∅ ∅)) (λ_=>bJ) (eP ∅) (λ_=>(j6 (bh C (aB C dt (aT C (aB C aN aZ) aa)) aZ))) (λ_=>aa) (λ_=>rfl))))
def mn:Cm V:=cP [] ((ag ((af "self").b (aA "taken")) am).b (nO)) (ww "slot" "one") (((af "one").b bz).b d9) (af "slot")
def uH:Cm Fl:=((mn).b aV)
def pD:Cm Fl:=(uH)
def dU:Fc:=ie ["self"] (pD)
theorem kW:FX 1 135 (dU) :=
 b7.of C (k:=0) (jD ⟨_,_,_,rfl⟩ (BT λ_=>∅) ∅ rfl) λL =>
 (ar (aU (gG [] ∅ ∅ (CS C rfl ∅ pJ (ae (aB C df aa) ai) ∅) (λ_=>(CK rfl (.inl ∅) (.inl ∅))) (AS ∅ ∅) (λ_=>(j6 (d7 (d8 aa)))) (λ_=>aa) (λ_=>rfl))))
def cG:Cm Fl:=((((aD ((af "self").b (aA "taken")) (af "slot")).b bz).b d9).b (aC (ay ((Cm.p (V.bool true)).b (ju ((af "self").b (aA "taken")) (af "slot"))) ((af "slot").b aV)) cn))
def mY:Cm Fl:=(((ag ((ag ((af "self").b (aA "taken")) am).b (dw)) am).b dh).b (ft (aY "slot") (cG)))
def uO:Cm Fl:=((ag (Cm.p (V.str "no slot is free")) am).b λ_=>fY "NoRoom")
def kJ:Cm Fl:=(ay (mY) (uO))
def fD:Fc:=ie ["self"] (kJ)
theorem pR:FX 1 147 (fD) :=
 b7.of C (k:=0) (jD ⟨_,_,_,rfl⟩ (BT λ_=>∅) ∅ rfl) λL =>
 (aj (fq (jc C ∅ fH (ae (cD C (ae (aB C df aa) ai) (fO C) ∅ ∅ ∅ ∅ ∅ ∅) ai) ∅) bJ (ar (cu (d7 (d8 (aT C (aB C df aa) aa))) (aj (dr C cT (aB C df aa) aa rfl) (ar (aU aa))) aQ)) (λ_=>rfl)) (ar (eK C rfl ∅ qE ∅ uW ∅ (ae lw ai) ∅ ∅ (by intro q vs q' h;cases h;decide))))
def nZ:Cm Fl:=((aI "Plan" "size_for" (eU) ((af "self").b (aA "plan")) (ag (af "places") am)).b (aH "size"))
def n7:Cm Fl:=((Cm.p V.none).b (aH "best"))
def jv:Cm Fl:=(ay ((aD ((af "self").b (aA "racks")) (af "page")).b (aH "shelf")) (((be .NotEq (aI "Shelf" "free" (dU) (af "shelf") am) (am.b fN)).b (aC (((be .Is (af "best") (Cm.p V.none)).b (aC (Cm.p true) ((be .Gt (aI "Shelf" "out" (bQ) (af "shelf") am) (aI "Shelf" "out" (bQ) (af "best") am)).b (aC (Cm.p true) (Cm.p false))))).b (aC (Cm.p true) (Cm.p false))) (Cm.p false))).b (aC ((af "shelf").b (aH "best")) cn)))
def n8:Cm Fl:=(((aI "Room" "of_size" (cZ) (af "self") (ag (af "size") am)).b (eA)).b (ft (aY "page") (jv)))
def jF:Cm Fl:=((be .Is (af "best") (Cm.p V.none)).b (aC ((aI "Room" "fresh" (hY) (af "self") (ag (af "size") am)).b (aH "best")) cn))
def jG:Cm Fl:=((aI "Room" "begin" (dR) (af "self") (ag (af "best") (ag (aI "Shelf" "take" (fD) (af "best") am) am))).b (aH "place"))
def nI:Cm Fl:=((al 0).b (ju ((af "self").b (aA "cells")) (av cY (af "place") (af "step"))))
def jH:Cm Fl:=(((ag (af "size") am).b dh).b (ft (aY "step") (nI)))
def n9:Cm Fl:=((af "place").b aV)
def gA:Cm Fl:=(ay (nZ) (ay (n7) (ay (n8) (ay (jF) (ay (jG) (ay (jH) (n9)))))))
def gr:Fc:=ie ["self", "places"] (gA)
theorem zf:FX 4 225 (gr) :=
 b7.of C (k:=3) (jD ⟨_,_,_,rfl⟩ (zQ λ_ _=>∅) ∅ rfl) λL =>
 (aj (au (aK C iJ (lC C) (aB C dX aa) (ae aa ai) ∅ ∅ rfl rfl ∅ ∅) ) (aj (au s9 ) (aj (fq (cE C (.name _ _) (aK C fG (iQ C) aa (ae aa ai) ∅ ∅ rfl rfl ∅ ∅)) bJ (aj (au (aT C (aB C aN aa) aa) ) (ar (cu (du (js (bh C (aK C gR (kW C) aa ai ∅ ∅ rfl rfl ∅ ∅) (fo ai)) (js (du (cW (bh C aa s9) (cW (bh C (aK C c7 (fk C) aa ai ∅ ∅ rfl rfl ∅ ∅) (aK C c7 (fk C) aa ai ∅ ∅ rfl rfl ∅ ∅)) fS))) pd))) (ar (au aa )) aQ))) (λ_=>rfl)) (aj (cu (bh C aa s9) (ar (au (aK C sf (xz C) aa (ae aa ai) ∅ ∅ rfl rfl ∅ ∅) )) aQ) (aj (au (aK C eY (ik C) aa (ae aa (ae (aK C lB (pR C) aa ai ∅ ∅ rfl rfl ∅ ∅) ai)) ∅ ∅ rfl rfl ∅ ∅) ) (aj (fq (jc C ∅ fH (ae aa ai) ∅) bJ (ar (dr C aq (aB C iE aa) (aw C aa aa cV) rfl)) (λ_=>rfl)) (ar (aU aa))))))))
def vH:Cm Fl:=((((al 0).b λv1=>(af "slot").b λv2=>(ew .LtE v1 v2).b λx3=>if x3 then ((ag ((af "self").b (aA "taken")) am).b (dw)).b λv8=>(ew .Lt v2 v8).b λx9=>Cm.p (V.bool x9) else Cm.p (V.bool false)).b λv13=>(bz v13).b λb14=>if b14 then (aD ((af "self").b (aA "taken")) (af "slot")) else Cm.p v13).b aV)
def rD:Cm Fl:=(vH)
def jh:Fc:=ie ["self", "slot"] (rD)
theorem rN:FX 1 154 (jh) :=
 b7.of C (k:=0) (jD ⟨_,_,_,rfl⟩ (zQ λ_ _=>∅) ∅ rfl) λL =>
 (ar (aU (iw (qh (CO C aq aa (cD C (ae (aB C df aa) ai) (fO C) ∅ ∅ ∅ ∅ ∅ ∅) ∅) (oj (aT C (aB C df aa) aa))))))
def uz:Cm Fl:=((av dq (af "place") (((af "self").b (aA "plan")).b (aA "length"))).b (aH "page"))
def uA:Cm Fl:=((be .NotIn (af "page") ((af "self").b (aA "racks"))).b (aC ((ag (Cm.p (V.str "no shelf is there")) am).b λ_=>fY "NotOut") cn))
def uB:Cm Fl:=((aD ((af "self").b (aA "racks")) (af "page")).b (aH "shelf"))
def uC:Cm Fl:=((av bw (af "place") (((af "self").b (aA "plan")).b (aA "length"))).b (aH "step"))
def uD:Cm Fl:=(((be .NotEq (av bw (af "step") ((af "shelf").b (aA "size"))) (al 0)).b (aC (Cm.p true) ((((aI "Shelf" "has" (jh) (af "shelf") (ag (av dq (af "step") ((af "shelf").b (aA "size"))) am)).b bz).b d9).b (aC (Cm.p true) (Cm.p false))))).b (aC ((ag (Cm.p (V.str "no thing begins there")) am).b λ_=>fY "NotOut") cn))
def uE:Cm Fl:=(((ag (af "shelf") (ag (av dq (af "step") ((af "shelf").b (aA "size"))) am)).b sk).b aV)
def pB:Cm Fl:=(ay (uz) (ay (uA) (ay (uB) (ay (uC) (ay (uD) (uE))))))
def hX:Fc:=ie ["self", "place"] (pB)
theorem pP:FX 2 211 (hX) :=
 b7.of C (k:=1) (jD ⟨_,_,_,rfl⟩ (zQ λ_ _=>∅) ∅ rfl) λL =>
 (aj (au (aw C aa (aB C gx (aB C dX aa)) fg) ) (aj (cu (bh C aa (aB C aN aa)) (ar (eK C rfl ∅ qF ∅ o7 ∅ (ae lw ai) ∅ ∅ (by intro q vs q' h;cases h;decide))) aQ) (aj (au (aT C (aB C aN aa) aa) ) (aj (au (aw C aa (aB C gx (aB C dX aa)) bK) ) (aj (cu (du (cW (bh C (aw C aa (aB C dt aa) bK) aq) (cW (d7 (d8 (aK C mK (rN C) aa (ae (aw C aa (aB C dt aa) fg) ai) ∅ ∅ rfl rfl ∅ ∅))) fS))) (ar (eK C rfl ∅ qF ∅ o7 ∅ (ae lw ai) ∅ ∅ (by intro q vs q' h;cases h;decide))) aQ) (ar (aU (nh (ae aa (ae (aw C aa (aB C dt aa) fg) ai))))))))))
def vx:Cm Fl:=((aD (aI "Room" "found" (hX) (af "self") (ag (af "place") am)) (al 0)).b (aH "shelf"))
def vy:Cm Fl:=((((al 0).b λv8=>(af "step").b λv9=>(ew .LtE v8 v9).b λx10=>if x10 then ((af "shelf").b (aA "size")).b λv12=>(ew .Lt v9 v12).b λx13=>Cm.p x13 else Cm.p false).b d9).b (aC ((ag (Cm.p (V.str "no such step")) am).b λ_=>fY "OutOfThing") cn))
def vz:Cm Fl:=((av cY (af "place") (af "step")).b aV)
def mE:Cm Fl:=(ay (vx) (ay (vy) (vz)))
def fh:Fc:=ie ["self", "place", "step"] (mE)
theorem rK:FX 3 249 (fh) :=
 b7.of C (k:=2) (jD ⟨_,_,_,rfl⟩ (Gf λ_ _ _=>∅) ∅ rfl) λL =>
 (aj (au (aT C (aK C lz (pP C) aa (ae aa ai) ∅ ∅ rfl rfl ∅ ∅) aq) ) (aj (cu (d7 (CY C aq aa (aB C dt aa) ∅)) (ar (eK C rfl ∅ nW ∅ uX ∅ (ae lw ai) ∅ ∅ (by intro q vs q' h;cases h;decide))) aQ) (ar (aU (aw C aa aa cV)))))
def uG:Cm Fl:=((af "number").b (ju ((af "self").b (aA "cells")) (aI "Room" "cell" (fh) (af "self") (ag (af "place") (ag (af "step") am)))))
def kH:Cm Fl:=(uG)
def de:Fc:=ie ["self", "place", "step", "number"] (kH)
theorem kT:FX 4 263 (de) :=
 b7.of C (k:=3) (jD ⟨_,_,_,rfl⟩ (HY λ_ _ _ _=>∅) ∅ rfl) λL =>
 (ar (dr C aa (aB C iE aa) (aK C mI (rK C) aa (ae aa (ae aa ai)) ∅ ∅ rfl rfl ∅ ∅) rfl))
def gJ:Cm Fl:=((be .GtE (af "_law_size") (af "_law_wish")).b (aC ((af "_law_size").b aV) cn))
def lP:Cm Fl:=(((af "_law_sizes").b (eA)).b (ft (aY "_law_size") (gJ)))
def sI:Cm Fl:=((al 0).b aV)
def jB:Cm Fl:=(ay (lP) (sI))
def gb:Fc:=ie ["_law_sizes", "_law_wish"] (jB)
theorem nX {hq:Bool}:b7 hq 1 374 (gb) :=
 b7.of C (k:=0) (jD ⟨_,_,_,rfl⟩ (zQ λ_ _=>∅) ∅ rfl) λL =>
 (aj (fq (cE C (.name _ _) aa) bJ (ar (cu (bh C aa aa) (ar (aU aa)) aQ)) (λ_=>rfl)) (ar (aU aq)))
def vQ:Cm Fl:=((((af "_law_found").b (po "int")).b λv7=>(bz v7).b λb8=>if b8 then (((af "_law_found").b (po "bool")).b λv5=>(bz v5).b λb6=>Cm.p (V.bool (!b6))) else Cm.p v7).b aV)
def yN:Cm Fl:=(vQ)
def cQ:Fc:=ie ["_law_found"] (yN)
theorem dL:FX 1 353 (cQ) :=
 b7.of C (k:=0) (jD ⟨_,_,_,rfl⟩ (BT λ_=>∅) ∅ rfl) λL =>
 (ar (aU (iw (qh (s8 C Bc ∅ cU ∅ DR ∅ ∅ ∅ aa ∅ ∅) (oj (Gb (s8 C yH ∅ cU ∅ Bl ∅ ∅ ∅ aa ∅ ∅)))))))
def mZ:Cm Fl:=(((ag (aD (af "_law_drawn") (al 2)) (ag (af "_law_wish") am)).b (bA (gb))).b (aH "_law_size"))
def rQ:Cm Fl:=(zq ((aI "Room" "wish" (gr) (af "_law_room") (ag (af "_law_wish") am)).b (aH "_law_place")) (λc=>if c = "TooLarge" then ((oo .Eq (af "_law_size") (al 0)).b aV) else if c = "NoRoom" then ((oo .Gt (af "_law_size") (al 0)).b aV) else Cm.stk))
def rR:Cm Fl:=(((be .Eq (af "_law_size") (al 0)).b (aC (Cm.p true) (((((ag (af "_law_place") am).b (bA (cQ))).b bz).b d9).b (aC (Cm.p true) ((be .In (af "_law_place") (af "_law_held_here")).b (aC (Cm.p true) (Cm.p false))))))).b (aC ((Cm.p (V.bool false)).b aV) cn))
def rS:Cm Fl:=((av gB ((ag (al 0) am).b fN) (af "_law_size")).b (ju (af "_law_held_here") (af "_law_place")))
def zl:Cm Fl:=((be .Eq (av bw (af "_law_number") (al 2)) (al 1)).b (aC (ay ((af "_law_number").b (ju (aD (af "_law_held_here") (af "_law_place")) (av xG (af "_law_size") (al 1)))) ((aI "Room" "write" (de) (af "_law_room") (ag (af "_law_place") (ag (av xG (af "_law_size") (al 1)) (ag (af "_law_number") am)))).b uZ)) cn))
def zm:Cm Fl:=((Cm.p (V.bool true)).b aV)
def jU:Cm Fl:=(ay (mZ) (ay (rQ) (ay (rR) (ay (rS) (ay (zl) (zm))))))
def jQ:Fc:=ie ["_law_room", "_law_drawn", "_law_held_here", "_law_wish", "_law_number"] (jU)
theorem wv:FX 5 388 (jQ) :=
 b7.of C (k:=4) (jD ⟨_,_,_,rfl⟩ (JQ λ_ _ _ _ _=>∅) ∅ rfl) λL =>
 (aj (au (bG C (nX C) (ae (aT C aa aq) (ae aa ai)) ∅ ∅ ∅ ∅ ∅ ∅) ) (aj (CZ (ar (au (aK C tZ (zf C) aa (ae aa ai) ∅ ∅ rfl rfl ∅ ∅) )) (λc=>(A2 (AN (a:=61) C ∅ jl ∅ ∅ ∅ (ar (aU (vS C aa aq ∅)))) (A2 (GM (a:=85) C ∅ jl ∅ ∅ ∅ (AN (a:=85) C ∅ qE ∅ ∅ ∅ (ar (aU (vS C aa aq ∅))))) Ad)))) (aj (cu (du (cW (bh C aa aq) (cW (d7 (d8 (bG C (dL C) (ae aa ai) ∅ ∅ ∅ ∅ ∅ ∅))) (cW (bh C aa aa) fS)))) (ar (aU cT)) aQ) (aj (dr C (aw C (fo (ae aq ai)) aa rc) aa aa rfl) (aj (cu (bh C (aw C aa aq bK) aq) (aj (dr C aa (aT C aa aa) (aw C aa aq vW) rfl) (ar (jt (aK C gQ (kT C) aa (ae aa (ae (aw C aa aq vW) (ae aa ai))) ∅ ∅ rfl rfl ∅ ∅) rfl rfl))) aQ) (ar (aU cT)))))))
def ix:Cm V:=cP ["self"] ((af "stay").b (eA)) (aY "page") (be .NotEq (aI "Shelf" "free" (dU) (aD ((af "self").b (aA "racks")) (af "page")) am) (am.b fN)) (aD ((af "self").b (aA "racks")) (af "page"))
def mV:Cm Fl:=((aD (ix) (al 0)).b (aH "shelf"))
def mW:Cm Fl:=((aI "Room" "begin" (dR) (af "self") (ag (af "shelf") (ag (aI "Shelf" "take" (fD) (af "shelf") am) am))).b (aH "there"))
def mj:Cm Fl:=((aD ((af "self").b (aA "cells")) (av cY (af "place") (af "step"))).b (ju ((af "self").b (aA "cells")) (av cY (af "there") (af "step"))))
def mX:Cm Fl:=(((ag (af "size") am).b dh).b (ft (aY "step") (mj)))
def uF:Cm Fl:=(((ag (af "place") (ag (af "there") am)).b sk).b aV)
def pC:Cm Fl:=(ay (mV) (ay (mW) (ay (mX) (uF))))
def kj:Fc:=ie ["self", "place", "stay", "size"] (pC)
theorem xA:FX 2 273 (kj) :=
 b7.of C (k:=1) (jD ⟨_,_,_,rfl⟩ (HY λ_ _ _ _=>∅) ∅ rfl) λL =>
 (aj (au (aT C (gG ["self"] ∅ ∅ (cE C (.name _ _) aa) (λ_=>bJ) (eP ∅) (λ_=>(j6 (bh C (aK C gR (kW C) (aT C (aB C aN aZ) aa) ai ∅ ∅ rfl rfl ∅ ∅) (fo ai)))) (λ_=>(aT C (aB C aN aZ) aa)) (λ_=>rfl)) aq) ) (aj (au (aK C eY (ik C) aZ (ae aa (ae (aK C lB (pR C) aa ai ∅ ∅ rfl rfl ∅ ∅) ai)) ∅ ∅ rfl rfl ∅ ∅) ) (aj (fq (jc C ∅ fH (ae aa ai) ∅) bJ (ar (dr C (aT C (aB C iE aZ) (aw C aa aa cV)) (aB C iE aZ) (aw C aa aa cV) rfl)) (λ_=>rfl)) (ar (aU (nh (ae aa (ae aa ai))))))))
def gU:Cm Fl:=((aI "Plan" "per" (fU) ((af "self").b (aA "plan")) (ag (af "size") am)).b (aH "per"))
def lD:Cm Fl:=((aI "Room" "of_size" (cZ) (af "self") (ag (af "size") am)).b (aH "pages"))
def gK:Cm V:=cP ["self"] ((af "pages").b (eA)) (aY "page") (Cm.p true) (aI "Shelf" "out" (bQ) (aD ((af "self").b (aA "racks")) (af "page")) am)
def lE:Cm Fl:=(((ag (gK) am).b AA).b (aH "many"))
def gL:Cm V:=cP ["self"] ((af "pages").b (eA)) (aY "page") (Cm.p true) ((ag ((aI "Shelf" "out" (bQ) (aD ((af "self").b (aA "racks")) (af "page")) am).b FC) (ag (af "page") am)).b sk)
def lF:Cm Fl:=(((ag (gL) am).b bR).b (aH "ranks"))
def gM:Cm V:=cP [] ((av (zo) (af "ranks") (av dq (av xG (av cY (af "many") (af "per")) (al 1)) (af "per"))).b (eA)) (aY "rank") (Cm.p true) (aD (af "rank") (al 1))
def gV:Cm Fl:=(((ag (gM) am).b bR).b (aH "stay"))
def gW:Cm Fl:=((am.b fN).b (aH "moves"))
def gH:Cm Fl:=((wK true j7 (af "moves") (aI "Room" "moved" (kj) (af "self") (ag (aI "Room" "begin" (dR) (af "self") (ag (aD ((af "self").b (aA "racks")) (af "page")) (ag (af "slot") am))) (ag (af "stay") (ag (af "size") am))))).b uZ)
def eO:Cm Fl:=((be .NotIn (af "page") (af "stay")).b (aC (((aI "Shelf" "gone" (hZ) (aD ((af "self").b (aA "racks")) (af "page")) am).b (eA)).b (ft (aY "slot") (gH))) cn))
def lG:Cm Fl:=(((af "pages").b (eA)).b (ft (aY "page") (eO)))
def gI:Cm Fl:=((be .NotIn (af "page") (af "stay")).b (aC ((wK false ly ((af "self").b (aA "racks")) (af "page")).b uZ) cn))
def lH:Cm Fl:=(((af "pages").b (eA)).b (ft (aY "page") (gI)))
def sw:Cm Fl:=((af "moves").b aV)
def nR:Cm Fl:=(ay (gU) (ay (lD) (ay (lE) (ay (lF) (ay (gV) (ay (gW) (ay (lG) (ay (lH) (sw)))))))))
def jx:Fc:=ie ["self", "size"] (nR)
theorem vh:FX 3 268 (jx) :=
 b7.of C (k:=2) (jD ⟨_,_,_,rfl⟩ (zQ λ_ _=>∅) ∅ rfl) λL =>
 (aj (au (aK C jC (oS C) (aB C dX aZ) (ae aa ai) ∅ ∅ rfl rfl ∅ ∅) ) (aj (au (aK C fG (iQ C) aZ (ae aa ai) ∅ ∅ rfl rfl ∅ ∅) ) (aj (au (cD C (ae (gG ["self"] ∅ ∅ (cE C (.name _ _) aa) (λ_=>bJ) (eP ∅) (λ_=>ti) (λ_=>(aK C c7 (fk C) (aT C (aB C aN aZ) aa) ai ∅ ∅ rfl rfl ∅ ∅)) (λ_=>rfl)) ai) (Ga C) ∅ ∅ ∅ ∅ ∅ ∅) ) (aj (au (cD C (ae (gG ["self"] ∅ ∅ (cE C (.name _ _) aa) (λ_=>bJ) (eP ∅) (λ_=>ti) (λ_=>(nh (ae (CP (aK C c7 (fk C) (aT C (aB C aN aZ) aa) ai ∅ ∅ rfl rfl ∅ ∅)) (ae aa ai)))) (λ_=>rfl)) ai) (gh C) ∅ ∅ ∅ ∅ ∅ ∅) ) (aj (au (cD C (ae (gG [] ∅ ∅ (cE C (.name _ _) (GJ C aa (aw C (aw C (aw C aa aa cV) aq vW) aa fg))) (λ_=>bJ) (eP ∅) (λ_=>ti) (λ_=>(aT C aa aq)) (λ_=>rfl)) ai) (gh C) ∅ ∅ ∅ ∅ ∅ ∅) ) (aj (au (fo ai) ) (aj (fq (cE C (.name _ _) aa) bJ (ar (cu (bh C aa aa) (ar (fq (cE C (.name _ _) (aK C lA (pQ C) (aT C (aB C aN aZ) aa) ai ∅ ∅ rfl rfl ∅ ∅)) bJ (ar (jt (q6 C true qk (te C) aa (aK C sg (xA C) aZ (ae (aK C eY (ik C) aZ (ae (aT C (aB C aN aZ) aa) (ae aa ai)) ∅ ∅ rfl rfl ∅ ∅) (ae aa (ae aa ai))) ∅ ∅ rfl rfl ∅ ∅) rfl rfl ∅ ∅ ∅) rfl rfl)) (λ_=>rfl))) aQ)) (λ_=>rfl)) (aj (fq (cE C (.name _ _) aa) bJ (ar (cu (bh C aa aa) (ar (jt (q6 C false pe (tf C) (aB C aN aZ) aa rfl rfl ∅ ∅ ∅) rfl rfl)) aQ)) (λ_=>rfl)) (ar (aU aa))))))))))
def vN:Cm Fl:=(((((af "_law_found").b (po "list")).b bz).b d9).b (aC ((Cm.p (V.bool false)).b aV) cn))
def nJ:Cm Fl:=(ay ((((((af "_law_pair").b (po "tuple")).b bz).b d9).b (aC (Cm.p true) ((be .NotEq ((ag (af "_law_pair") am).b (dw)) (al 2)).b (aC (Cm.p true) (Cm.p false))))).b (aC ((Cm.p (V.bool false)).b aV) cn)) ((((((ag (aD (af "_law_pair") (al 0)) am).b (bA (cQ))).b bz).b d9).b (aC (Cm.p true) (((((ag (aD (af "_law_pair") (al 1)) am).b (bA (cQ))).b bz).b d9).b (aC (Cm.p true) (Cm.p false))))).b (aC ((Cm.p (V.bool false)).b aV) cn)))
def vO:Cm Fl:=(((af "_law_found").b (eA)).b (ft (aY "_law_pair") (nJ)))
def vP:Cm Fl:=((Cm.p (V.bool true)).b aV)
def rG:Cm Fl:=(ay (vN) (ay (vO) (vP)))
def mz:Fc:=ie ["_law_found"] (rG)
theorem zh:FX 2 381 (mz) :=
 b7.of C (k:=1) (jD ⟨_,_,_,rfl⟩ (BT λ_=>∅) ∅ rfl) λL =>
 (aj (cu (d7 (d8 (s8 C yI ∅ cU ∅ xo ∅ ∅ ∅ aa ∅ ∅))) (ar (aU cT)) aQ) (aj (fq (cE C (.name _ _) aa) bJ (aj (cu (du (cW (d7 (d8 (s8 C Cb ∅ cU ∅ DS ∅ ∅ ∅ aa ∅ ∅))) (cW (bh C (cD C (ae aa ai) (fO C) ∅ ∅ ∅ ∅ ∅ ∅) aq) fS))) (ar (aU cT)) aQ) (ar (cu (du (cW (d7 (d8 (bG C (dL C) (ae (aT C aa aq) ai) ∅ ∅ ∅ ∅ ∅ ∅))) (cW (d7 (d8 (bG C (dL C) (ae (aT C aa aq) ai) ∅ ∅ ∅ ∅ ∅ ∅))) fS))) (ar (aU cT)) aQ))) (λ_=>rfl)) (ar (aU cT))))
def vJ:Cm Fl:=((aI "Room" "gather" (jx) (af "_law_room") (ag (af "_law_size") am)).b (aH "_law_moves"))
def vK:Cm Fl:=(((((ag (af "_law_moves") am).b (bA (mz))).b bz).b d9).b (aC ((Cm.p (V.bool false)).b aV) cn))
def jw:Cm Fl:=(ay (((be .NotIn (aD (af "_law_move") (al 0)) (af "_law_held_here")).b (aC (Cm.p true) ((be .NotEq ((ag (aD (af "_law_held_here") (aD (af "_law_move") (al 0))) am).b (dw)) (af "_law_size")).b (aC (Cm.p true) ((be .In (aD (af "_law_move") (al 1)) (af "_law_held_here")).b (aC (Cm.p true) (Cm.p false))))))).b (aC ((Cm.p (V.bool false)).b aV) cn)) ((wK false ly (af "_law_held_here") (aD (af "_law_move") (al 0))).b (ju (af "_law_held_here") (aD (af "_law_move") (al 1)))))
def vL:Cm Fl:=(((af "_law_moves").b (eA)).b (ft (aY "_law_move") (jw)))
def vM:Cm Fl:=((Cm.p (V.bool true)).b aV)
def rF:Cm Fl:=(ay (vJ) (ay (vK) (ay (vL) (vM))))
def my:Fc:=ie ["_law_room", "_law_size", "_law_held_here"] (rF)
theorem zg:FX 4 395 (my) :=
 b7.of C (k:=3) (jD ⟨_,_,_,rfl⟩ (Gf λ_ _ _=>∅) ∅ rfl) λL =>
 (aj (au (aK C qA (vh C) aa (ae aa ai) ∅ ∅ rfl rfl ∅ ∅) ) (aj (cu (d7 (d8 (bG C (zh C) (ae aa ai) ∅ ∅ ∅ ∅ ∅ ∅))) (ar (aU cT)) aQ) (aj (fq (cE C (.name _ _) aa) bJ (aj (cu (du (cW (bh C (aT C aa aq) aa) (cW (bh C (cD C (ae (aT C aa (aT C aa aq)) ai) (fO C) ∅ ∅ ∅ ∅ ∅ ∅) aa) (cW (bh C (aT C aa aq) aa) fS)))) (ar (aU cT)) aQ) (ar (dr C (q6 C false pe (tf C) aa (aT C aa aq) rfl rfl ∅ ∅ ∅) aa (aT C aa aq) rfl))) (λ_=>rfl)) (ar (aU cT)))))
def fM:Cm Fl:=((aI "Plan" "size_for" (eU) ((af "self").b (aA "plan")) (ag (af "places") am)).b (aH "size"))
def fy:Cm V:=cP ["self"] ((aI "Room" "of_size" (cZ) (af "self") (ag (af "size") am)).b (eA)) (aY "page") (Cm.p true) ((ag (aI "Shelf" "free" (dU) (aD ((af "self").b (aA "racks")) (af "page")) am) am).b (dw))
def jq:Cm Fl:=(((ag (fy) am).b AA).b (aH "free"))
def fz:Cm V:=cP ["size", "self"] ((aI "Room" "empty_pages" (bV) (af "self") am).b (eA)) (aY "page") (be .NotEq ((aD ((af "self").b (aA "racks")) (af "page")).b (aA "size")) (af "size")) (af "page")
def jr:Cm Fl:=((fz).b (aH "others"))
def pW:Cm Fl:=((av cY (af "free") (av gB (av cY ((ag (aI "Room" "pile" (gn) (af "self") am) am).b (dw)) ((ag (af "others") am).b (dw))) (aI "Plan" "per" (fU) ((af "self").b (aA "plan")) (ag (af "size") am)))).b aV)
def gP:Cm Fl:=(ay (fM) (ay (jq) (ay (jr) (pW))))
def eV:Fc:=ie ["self", "places"] (gP)
theorem sr:FX 3 242 (eV) :=
 b7.of C (k:=2) (jD ⟨_,_,_,rfl⟩ (zQ λ_ _=>∅) ∅ rfl) λL =>
 (aj (au (aK C iJ (lC C) (aB C dX aZ) (ae aa ai) ∅ ∅ rfl rfl ∅ ∅) (.inr ⟨∅,∅⟩)) (aj (au (cD C (ae (gG ["self"] ∅ ∅ (cE C (.name _ _) (aK C fG (iQ C) aZ (ae aZ ai) ∅ ∅ rfl rfl ∅ ∅)) (λ_=>bJ) (eP ∅) (λ_=>ti) (λ_=>(cD C (ae (aK C gR (kW C) (aT C (aB C aN aZ) aa) ai ∅ ∅ rfl rfl ∅ ∅) ai) (fO C) ∅ ∅ ∅ ∅ ∅ ∅)) (λ_=>rfl)) ai) (Ga C) ∅ ∅ ∅ ∅ ∅ ∅) ) (aj (vX ["size", "self"] ∅ ∅ (cE C (.name _ _) (aK C cJ (dk C) aZ ai ∅ ∅ rfl rfl ∅ ∅)) (λ_=>bJ) (eP ∅) (λ_=>(j6 (bh C (aB C dt (aT C (aB C aN aZ) aa)) aZ))) (λ_=>aa) (λ_=>rfl) rfl ∅) (ar (aU (aw C aa (aw C (aw C (cD C (ae (aK C iK (mO C) aZ ai ∅ ∅ rfl rfl ∅ ∅) ai) (fO C) ∅ ∅ ∅ ∅ ∅ ∅) (cD C (ae aa ai) (fO C) ∅ ∅ ∅ ∅ ∅ ∅) cV) (aK C jC (oS C) (aB C dX aZ) (ae aZ ai) ∅ ∅ rfl rfl ∅ ∅) rc) cV))))))
def oZ:Cm Fl:=(zq (((ag (aI "Room" "room_for" (eV) (af "_law_room") (ag (af "_law_wish") am)) am).b (bA (cQ))).b aV) (λc=>if c = "TooLarge" then ((oo .Eq ((ag (aD (af "_law_drawn") (al 2)) (ag (af "_law_wish") am)).b (bA (gb))) (al 0)).b aV) else Cm.stk))
def fX:Cm Fl:=(oZ)
def fW:Fc:=ie ["_law_room", "_law_drawn", "_law_wish"] (fX)
theorem qQ:FX 4 416 (fW) :=
 b7.of C (k:=3) (jD ⟨_,_,_,rfl⟩ (Gf λ_ _ _=>∅) ∅ rfl) λL =>
 (ar (CZ (ar (aU (bG C (dL C) (ae (aK C oO (sr C) aa (ae aa ai) ∅ ∅ rfl rfl ∅ ∅) ai) ∅ ∅ ∅ ∅ ∅ ∅))) (λc=>(A2 (AN (a:=61) C ∅ jl ∅ ∅ ∅ (ar (aU (vS C (bG C (nX C) (ae (aT C aa aq) (ae aa ai)) ∅ ∅ ∅ ∅ ∅ ∅) aq ∅)))) Ad))))
def uI:Cm Fl:=((((aI "Shelf" "has" (jh) (af "self") (ag (af "slot") am)).b bz).b d9).b (aC ((ag (Cm.p (V.str "no such slot is out")) am).b λ_=>fY "NotOut") cn))
def uJ:Cm Fl:=((Cm.p (V.bool false)).b (ju ((af "self").b (aA "taken")) (af "slot")))
def kI:Cm Fl:=(ay (uI) (uJ))
def ko:Fc:=ie ["self", "slot"] (kI)
theorem xB:FX 2 161 (ko) :=
 b7.of C (k:=1) (jD ⟨_,_,_,rfl⟩ (zQ λ_ _=>∅) ∅ rfl) λL =>
 (aj (cu (d7 (d8 (aK C mK (rN C) aa (ae aa ai) ∅ ∅ rfl rfl ∅ ∅))) (ar (eK C rfl ∅ qF ∅ o7 ∅ (ae lw ai) ∅ ∅ (by intro q vs q' h;cases h;decide))) aQ) (ar (dr C cT (aB C df aa) aa rfl)))
def iU:Cm Fl:=((aI "Room" "found" (hX) (af "self") (ag (af "place") am)).b (aH "both"))
def iV:Cm Fl:=((aD (af "both") (al 0)).b (aH "shelf"))
def iW:Cm Fl:=((aI "Shelf" "give" (ko) (af "shelf") (ag (aD (af "both") (al 1)) am)).b uZ)
def ff:Cm V:=cP ["shelf", "self"] ((aI "Room" "empty_pages" (bV) (af "self") am).b (eA)) (aY "page") (be .Eq ((aD ((af "self").b (aA "racks")) (af "page")).b (aA "size")) ((af "shelf").b (aA "size"))) (af "page")
def iX:Cm Fl:=((ff).b (aH "others"))
def iY:Cm Fl:=(((be .Eq (aI "Shelf" "out" (bQ) (af "shelf") am) (al 0)).b (aC ((be .Gt ((ag (af "others") am).b (dw)) (al 1)).b (aC (Cm.p true) (Cm.p false))) (Cm.p false))).b (aC ((wK false ly ((af "self").b (aA "racks")) ((af "shelf").b (aA "page"))).b uZ) cn))
def jT:Cm Fl:=(ay (iU) (ay (iV) (ay (iW) (ay (iX) (iY)))))
def dS:Fc:=ie ["self", "place"] (jT)
theorem qN:FX 3 230 (dS) :=
 b7.of C (k:=2) (jD ⟨_,_,_,rfl⟩ (zQ λ_ _=>∅) ∅ rfl) λL =>
 (aj (au (aK C lz (pP C) aZ (ae aa ai) ∅ ∅ rfl rfl ∅ ∅) ) (aj (au (aT C aa aq) (.inr ⟨∅,∅⟩)) (aj (jt (aK C sj (xB C) aZ (ae (aT C aa aq) ai) ∅ ∅ rfl rfl ∅ ∅) rfl rfl) (aj (vX ["shelf", "self"] ∅ ∅ (cE C (.name _ _) (aK C cJ (dk C) aZ ai ∅ ∅ rfl rfl ∅ ∅)) (λ_=>bJ) (eP ∅) (λ_=>(j6 (bh C (aB C dt (aT C (aB C aN aZ) aa)) (aB C dt aZ)))) (λ_=>aa) (λ_=>rfl) rfl ∅) (ar (cu (du (js (bh C (aK C c7 (fk C) aZ ai ∅ ∅ rfl rfl ∅ ∅) aq) (js (bh C (cD C (ae aa ai) (fO C) ∅ ∅ ∅ ∅ ∅ ∅) aq) pd))) (ar (jt (q6 C false pe (tf C) (aB C aN aZ) (aB C wi aZ) rfl rfl ∅ ∅ ∅) rfl rfl)) aQ))))))
def vE:Cm Fl:=((aD ((af "self").b (aA "cells")) (aI "Room" "cell" (fh) (af "self") (ag (af "place") (ag (af "step") am)))).b aV)
def rB:Cm Fl:=(vE)
def gq:Fc:=ie ["self", "place", "step"] (rB)
theorem rM:FX 4 256 (gq) :=
 b7.of C (k:=3) (jD ⟨_,_,_,rfl⟩ (Gf λ_ _ _=>∅) ∅ rfl) λL =>
 (ar (aU (aT C (aB C iE aa) (aK C mI (rK C) aa (ae aa (ae aa ai)) ∅ ∅ rfl rfl ∅ ∅))))
def oX:Cm Fl:=(zq ((aI "Room" "write" (de) (af "_law_room") (ag (af "_law_place") (ag (af "_law_step") (ag (af "_law_number") am)))).b uZ) (λc=>if c = "OutOfThing" then ((Cm.p (V.bool true)).b aV) else Cm.stk))
def oY:Cm Fl:=((Cm.p (V.bool false)).b aV)
def jV:Cm Fl:=(ay (oX) (oY))
def fV:Fc:=ie ["_law_room", "_law_place", "_law_step", "_law_number"] (jV)
theorem qP:FX 5 402 (fV) :=
 b7.of C (k:=4) (jD ⟨_,_,_,rfl⟩ (HY λ_ _ _ _=>∅) ∅ rfl) λL =>
 (aj (CZ (ar (jt (aK C gQ (kT C) aa (ae aa (ae aa (ae aa ai))) ∅ ∅ rfl rfl ∅ ∅) rfl rfl)) (λc=>(A2 (AN (a:=109) C ∅ nW ∅ ∅ ∅ (ar (aU cT))) Ad))) (ar (aU cT)))
def lQ:Cm Fl:=((av dq (af "_law_cell") (al 10)).b (aH "_law_more"))
def lR:Cm Fl:=(((ag (af "_law_held_here") am).b bR).b (aH "_law_places"))
def lS:Cm Fl:=((aD (af "_law_places") (av bw (af "_law_more") ((ag (af "_law_places") am).b (dw)))).b (aH "_law_place"))
def lT:Cm Fl:=((av bw (av dq (af "_law_more") (al 4)) ((ag (aD (af "_law_held_here") (af "_law_place")) am).b (dw))).b (aH "_law_step"))
def eZ:Cm Fl:=((be .Eq (av bw (af "_law_cell") (al 10)) (al 3)).b (aC (ay ((wK false ly (af "_law_held_here") (af "_law_place")).b uZ) ((oo .Is (aI "Room" "give_back" (dS) (af "_law_room") (ag (af "_law_place") am)) (Cm.p V.none)).b aV)) cn))
def fb:Cm Fl:=(((be .Eq (av bw (af "_law_cell") (al 10)) (al 6)).b (aC ((be .Eq (av bw (af "_law_more") (al 4)) (al 0)).b (aC (Cm.p true) (Cm.p false))) (Cm.p false))).b (aC (((ag (af "_law_room") (ag (af "_law_place") (ag (aD ((ag ((al 1).b FC) (ag ((ag (aD (af "_law_held_here") (af "_law_place")) am).b (dw)) (ag (av cY (al 60) (av bw (af "_law_more") (al 99))) (ag (av xG ((al 2).b FC) (av bw (af "_law_more") (al 60))) am)))).b fN) (av bw (av dq (af "_law_more") (al 4)) (al 4))) (ag (af "_law_cell") am)))).b (bA (fV))).b aV) cn))
def fc:Cm Fl:=((be .Lt (av bw (af "_law_cell") (al 10)) (al 7)).b (aC (ay ((av xG (av bw (af "_law_cell") (av cY (av oR (al 10) (al 12)) (al 1000001))) (al 1000000)).b (aH "_law_number")) (ay ((be .Eq (av bw (af "_law_more") (al 9)) (al 7)).b (aC ((av xG (av bw (av gB (af "_law_cell") (av cY (av oR (al 10) (al 40)) (al 7))) (av oR (al 10) (al 41))) (av oR (al 10) (al 40))).b (aH "_law_number")) cn)) (ay ((af "_law_number").b (ju (aD (af "_law_held_here") (af "_law_place")) (af "_law_step"))) ((oo .Is (aI "Room" "write" (de) (af "_law_room") (ag (af "_law_place") (ag (af "_law_step") (ag (af "_law_number") am)))) (Cm.p V.none)).b aV)))) cn))
def lU:Cm Fl:=((aI "Room" "read" (gq) (af "_law_room") (ag (af "_law_place") (ag (af "_law_step") am))).b (aH "_law_found"))
def lV:Cm Fl:=((((ag (af "_law_found") am).b (bA (cQ))).b λv167=>(bz v167).b λb168=>if b168 then (oo .Eq (af "_law_found") (aD (aD (af "_law_held_here") (af "_law_place")) (af "_law_step"))) else Cm.p v167).b aV)
def nV:Cm Fl:=(ay (lQ) (ay (lR) (ay (lS) (ay (lT) (ay (eZ) (ay (fb) (ay (fc) (ay (lU) (lV)))))))))
def jA:Fc:=ie ["_law_room", "_law_held_here", "_law_cell"] (nV)
theorem vm:FX 6 409 (jA) :=
 b7.of C (k:=5) (jD ⟨_,_,_,rfl⟩ (Gf λ_ _ _=>∅) ∅ rfl) λL =>
 (aj (au (aw C aa aq fg) ) (aj (au (cD C (ae aa ai) (gh C) ∅ ∅ ∅ ∅ ∅ ∅) ) (aj (au (aT C aa (aw C aa (cD C (ae aa ai) (fO C) ∅ ∅ ∅ ∅ ∅ ∅) bK)) ) (aj (au (aw C (aw C aa aq fg) (cD C (ae (aT C aa aa) ai) (fO C) ∅ ∅ ∅ ∅ ∅ ∅) bK) ) (aj (cu (bh C (aw C aa aq bK) aq) (aj (jt (q6 C false pe (tf C) aa aa rfl rfl ∅ ∅ ∅) rfl rfl) (ar (aU (vS C (aK C nB (qN C) aa (ae aa ai) ∅ ∅ rfl rfl ∅ ∅) s9 ∅)))) aQ) (aj (cu (du (js (bh C (aw C aa aq bK) aq) (js (bh C (aw C aa aq bK) aq) pd))) (ar (aU (bG C (qP C) (ae aa (ae aa (ae (aT C (fo (ae (CP aq) (ae (cD C (ae (aT C aa aa) ai) (fO C) ∅ ∅ ∅ ∅ ∅ ∅) (ae (aw C aq (aw C aa aq bK) cV) (ae (aw C (CP aq) (aw C aa aq bK) vW) ai))))) (aw C (aw C aa aq fg) aq bK)) (ae aa ai)))) ∅ ∅ ∅ ∅ ∅ ∅))) aQ) (aj (cu (bh C (aw C aa aq bK) aq) (aj (au (aw C (aw C aa (aw C (aw C aq aq vV) aq cV) bK) aq vW) ) (aj (cu (bh C (aw C aa aq bK) aq) (ar (au (aw C (aw C (aw C aa (aw C (aw C aq aq vV) aq cV) rc) (aw C aq aq vV) bK) (aw C aq aq vV) vW) )) aQ) (aj (dr C aa (aT C aa aa) aa rfl) (ar (aU (vS C (aK C gQ (kT C) aa (ae aa (ae aa (ae aa ai))) ∅ ∅ rfl rfl ∅ ∅) s9 ∅)))))) aQ) (aj (au (aK C mJ (rM C) aa (ae aa (ae aa ai)) ∅ ∅ rfl rfl ∅ ∅) ) (ar (aU (iw (qh (bG C (dL C) (ae aa ai) ∅ ∅ ∅ ∅ ∅ ∅) (oj (vS C aa (aT C (aT C aa aa) aa) ∅))))))))))))))
def pX:Cm Fl:=((av dq (af "_law_cell") (al 10)).b (aH "_law_more"))
def j9:Cm Fl:=(((((ag (af "_law_room") (ag (af "_law_drawn") (ag (af "_law_held_here") (ag (av cY (al 1) (av bw (af "_law_more") (aD (af "_law_drawn") (al 1)))) (ag (av cY (av dq (af "_law_cell") (al 30)) (af "_law_turn")) am))))).b (bA (jQ))).b bz).b d9).b (aC ((Cm.p (V.bool false)).b aV) cn))
def il:Cm Fl:=((be .Lt (av bw (af "_law_cell") (al 10)) (al 3)).b (aC (ay ((al 1).b (aH "_law_many")) (ay ((be .Eq (av bw (af "_law_cell") (al 10)) (al 2)).b (aC ((av cY (al 1) (av bw (av dq (af "_law_more") (al 2)) (al 6))).b (aH "_law_many")) cn)) (ay (((ag (af "_law_many") am).b dh).b (ft (aY "_law_turn") (j9))) ((Cm.p (V.bool true)).b aV)))) cn))
def lg:Cm Fl:=(((be .Eq (av bw (af "_law_cell") (al 10)) (al 7)).b (aC ((be .Eq (av bw (af "_law_more") (al 4)) (al 3)).b (aC (Cm.p true) (Cm.p false))) (Cm.p false))).b (aC (((ag (af "_law_room") (ag (af "_law_drawn") (ag (av cY (al 1) (av bw (af "_law_more") (aD (af "_law_drawn") (al 1)))) am))).b (bA (fW))).b aV) cn))
def lh:Cm Fl:=((be .Lt (av bw (af "_law_cell") (al 10)) (al 8)).b (aC ((((af "_law_held_here").b λv86=>u9.b λv87=>(BY v86 v87).b λx88=>Cm.p (V.bool x88)).b λv96=>(bz v96).b λb97=>if b97 then Cm.p v96 else ((ag (af "_law_room") (ag (af "_law_held_here") (ag (af "_law_cell") am))).b (bA (jA)))).b aV) cn))
def ll:Cm Fl:=(((be .Eq (av bw (af "_law_cell") (al 10)) (al 9)).b (aC ((be .Eq (av bw (af "_law_more") (al 3)) (al 0)).b (aC (Cm.p true) (Cm.p false))) (Cm.p false))).b (aC (((ag (aI "Room" "trim" (mx) (af "_law_room") am) am).b (bA (cQ))).b aV) cn))
def pY:Cm Fl:=(((ag (af "_law_room") (ag (aD (aD (af "_law_drawn") (al 2)) (av bw (av dq (af "_law_more") (al 3)) ((ag (aD (af "_law_drawn") (al 2)) am).b (dw)))) (ag (af "_law_held_here") am))).b (bA (my))).b aV)
def tT:Cm Fl:=(ay (pX) (ay (il) (ay (lg) (ay (lh) (ay (ll) (pY))))))
def oE:Fc:=ie ["_law_room", "_law_drawn", "_law_held_here", "_law_cell"] (tT)
theorem Av:FX 7 423 (oE) :=
 b7.of C (k:=6) (jD ⟨_,_,_,rfl⟩ (HY λ_ _ _ _=>∅) ∅ rfl) λL =>
 (aj (au (aw C aa aq fg) ) (aj (cu (bh C (aw C aa aq bK) aq) (aj (au aq ) (aj (cu (bh C (aw C aa aq bK) aq) (ar (au (aw C aq (aw C (aw C aa aq fg) aq bK) cV) )) aQ) (aj (fq (jc C ∅ fH (ae aa ai) ∅) bJ (ar (cu (d7 (d8 (bG C (wv C) (ae aa (ae aa (ae aa (ae (aw C aq (aw C aa (aT C aa aq) bK) cV) (ae (aw C (aw C aa aq fg) aa cV) ai))))) ∅ ∅ ∅ ∅ ∅ ∅))) (ar (aU cT)) aQ)) (λ_=>rfl)) (ar (aU cT))))) aQ) (aj (cu (du (js (bh C (aw C aa aq bK) aq) (js (bh C (aw C aa aq bK) aq) pd))) (ar (aU (bG C (qQ C) (ae aa (ae aa (ae (aw C aq (aw C aa (aT C aa aq) bK) cV) ai))) ∅ ∅ ∅ ∅ ∅ ∅))) aQ) (aj (cu (bh C (aw C aa aq bK) aq) (ar (aU (iw (Ic (GH C aa sK ∅) (oj (bG C (vm C) (ae aa (ae aa (ae aa ai))) ∅ ∅ ∅ ∅ ∅ ∅)))))) aQ) (aj (cu (du (js (bh C (aw C aa aq bK) aq) (js (bh C (aw C aa aq bK) aq) pd))) (ar (aU (bG C (dL C) (ae (aK C tY (ze C) aa ai ∅ ∅ rfl rfl ∅ ∅) ai) ∅ ∅ ∅ ∅ ∅ ∅))) aQ) (ar (aU (bG C (zg C) (ae aa (ae (aT C (aT C aa aq) (aw C (aw C aa aq fg) (cD C (ae (aT C aa aq) ai) (fO C) ∅ ∅ ∅ ∅ ∅ ∅) bK)) (ae aa ai))) ∅ ∅ ∅ ∅ ∅ ∅))))))))
def ka:Cm Fl:=(ay ((aI "Room" "read" (gq) (af "_law_room") (ag (af "_law_place") (ag (af "_law_step") am))).b (aH "_law_found")) ((((((ag (af "_law_found") am).b (bA (cQ))).b bz).b d9).b (aC (Cm.p true) ((be .NotEq (af "_law_found") (aD (aD (af "_law_held_here") (af "_law_place")) (af "_law_step"))).b (aC (Cm.p true) (Cm.p false))))).b (aC ((Cm.p (V.bool false)).b aV) cn)))
def kf:Cm Fl:=(((ag ((ag (aD (af "_law_held_here") (af "_law_place")) am).b (dw)) am).b dh).b (ft (aY "_law_step") (ka)))
def xK:Cm Fl:=((((ag (af "_law_held_here") am).b bR).b (eA)).b (ft (aY "_law_place") (kf)))
def xL:Cm Fl:=((Cm.p (V.bool true)).b aV)
def tU:Cm Fl:=(ay (xK) (xL))
def kq:Fc:=ie ["_law_room", "_law_held_here"] (tU)
theorem uq:FX 5 430 (kq) :=
 b7.of C (k:=4) (jD ⟨_,_,_,rfl⟩ (zQ λ_ _=>∅) ∅ rfl) λL =>
 (aj (fq (cE C (.name _ _) (cD C (ae aa ai) (gh C) ∅ ∅ ∅ ∅ ∅ ∅)) bJ (ar (fq (jc C ∅ fH (ae (cD C (ae (aT C aa aa) ai) (fO C) ∅ ∅ ∅ ∅ ∅ ∅) ai) ∅) bJ (aj (au (aK C mJ (rM C) aa (ae aa (ae aa ai)) ∅ ∅ rfl rfl ∅ ∅) ) (ar (cu (du (cW (d7 (d8 (bG C (dL C) (ae aa ai) ∅ ∅ ∅ ∅ ∅ ∅))) (cW (bh C aa (aT C (aT C aa aa) aa)) fS))) (ar (aU cT)) aQ))) (λ_=>rfl))) (λ_=>rfl)) (ar (aU cT)))
def qT:Cm Fl:=((am.b fN).b (aH "_law_found"))
def qU:Cm Fl:=((al 0).b (aH "_law_before"))
def qV:Cm Fl:=((av dq (af "_law_cell") (al 3)).b (aH "_law_rest"))
def qW:Cm Fl:=((al 4).b (aH "_law_span"))
def j0:Cm Fl:=((be .Eq (av bw (af "_law_cell") (al 3)) (al 0)).b (aC ((af "_law_length").b (aH "_law_span")) cn))
def jL:Cm Fl:=(ay ((av cY (av cY (af "_law_before") (al 1)) (av bw (af "_law_rest") (af "_law_span"))).b (aH "_law_before")) (ay ((av dq (af "_law_rest") (af "_law_span")).b (aH "_law_rest")) ((be .LtE (af "_law_before") (af "_law_length")).b (aC ((wK true j7 (af "_law_found") (af "_law_before")).b uZ) cn))))
def qX:Cm Fl:=(((ag (af "_law_many") am).b dh).b (ft (aY "_law_turn") (jL)))
def j3:Cm Fl:=((be .Eq (af "_law_found") (am.b fN)).b (aC ((wK true j7 (af "_law_found") (af "_law_length")).b uZ) cn))
def qY:Cm Fl:=((af "_law_found").b aV)
def mF:Cm Fl:=(ay (qT) (ay (qU) (ay (qV) (ay (qW) (ay (j0) (ay (qX) (ay (j3) (qY))))))))
def iA:Fc:=ie ["_law_cell", "_law_length", "_law_many"] (mF)
theorem ur:FX 1 360 (iA) :=
 b7.of C (k:=0) (jD ⟨_,_,_,rfl⟩ (Gf λ_ _ _=>∅) ∅ rfl) λL =>
 (aj (au (fo ai) ) (aj (au aq ) (aj (au (aw C aa aq fg) ) (aj (au aq ) (aj (cu (bh C (aw C aa aq bK) aq) (ar (au aa )) aQ) (aj (fq (jc C ∅ fH (ae aa ai) ∅) bJ (aj (au (aw C (aw C aa aq cV) (aw C aa aa bK) cV) ) (aj (au (aw C aa aa fg) ) (ar (cu (bh C aa aa) (ar (jt (q6 C true qk (te C) aa aa rfl rfl ∅ ∅ ∅) rfl rfl)) aQ)))) (λ_=>rfl)) (aj (cu (bh C aa (fo ai)) (ar (jt (q6 C true qk (te C) aa aa rfl rfl ∅ ∅ ∅) rfl rfl)) aQ) (ar (aU aa)))))))))
def lL:Cm Fl:=(((ag (af "_law_script") (ag (al 0) am)).b (bA (cq))).b (aH "_law_first"))
def lM:Cm Fl:=(((ag (af "_law_script") (ag (al 1) am)).b (bA (cq))).b (aH "_law_second"))
def lN:Cm Fl:=((av cY (al 1) (av bw (af "_law_first") (al 6))).b (aH "_law_pages"))
def lO:Cm Fl:=((av cY (al 1) (av bw (af "_law_second") (al 12))).b (aH "_law_length"))
def sE:Cm Fl:=((be .Eq (av bw (av dq (af "_law_first") (al 6)) (al 8)) (al 1)).b (aC (ay ((av cY (al 1) (av bw (av dq (af "_law_first") (al 48)) (al 40))).b (aH "_law_pages")) ((av cY (al 1) (av bw (af "_law_second") (al 4))).b (aH "_law_length"))) cn))
def sF:Cm Fl:=((be .Eq (av bw (av dq (af "_law_first") (al 6)) (al 8)) (al 2)).b (aC (ay ((av cY (al 1) (av bw (av dq (af "_law_first") (al 48)) (al 2))).b (aH "_law_pages")) ((av cY (al 1) (av bw (af "_law_second") (al 60))).b (aH "_law_length"))) cn))
def sG:Cm Fl:=((be .Eq (av bw (av dq (af "_law_first") (al 6)) (al 8)) (al 3)).b (aC (ay ((av cY (al 1) (av bw (av dq (af "_law_first") (al 48)) (al 40))).b (aH "_law_pages")) ((av cY (al 1) (av bw (af "_law_second") (al 60))).b (aH "_law_length"))) cn))
def sH:Cm Fl:=(((ag (af "_law_pages") (ag (af "_law_length") (ag ((ag ((ag (af "_law_script") (ag (al 2) am)).b (bA (cq))) (ag (af "_law_length") (ag (av cY (al 1) (av bw ((ag (af "_law_script") (ag (al 3) am)).b (bA (cq))) (al 8))) am))).b (bA (iA))) am))).b sk).b aV)
def nU:Cm Fl:=(ay (lL) (ay (lM) (ay (lN) (ay (lO) (ay (sE) (ay (sF) (ay (sG) (sH))))))))
def jz:Fc:=ie ["_law_script"] (nU)
theorem vk:FX 2 367 (jz) :=
 b7.of C (k:=1) (jD ⟨_,_,_,rfl⟩ (BT λ_=>∅) ∅ rfl) λL =>
 (aj (au (bG C (eE C) (ae aa (ae aq ai)) ∅ ∅ ∅ ∅ ∅ ∅) ) (aj (au (bG C (eE C) (ae aa (ae aq ai)) ∅ ∅ ∅ ∅ ∅ ∅) ) (aj (au (aw C aq (aw C aa aq bK) cV) ) (aj (au (aw C aq (aw C aa aq bK) cV) ) (aj (cu (bh C (aw C (aw C aa aq fg) aq bK) aq) (aj (au (aw C aq (aw C (aw C aa aq fg) aq bK) cV) ) (ar (au (aw C aq (aw C aa aq bK) cV) ))) aQ) (aj (cu (bh C (aw C (aw C aa aq fg) aq bK) aq) (aj (au (aw C aq (aw C (aw C aa aq fg) aq bK) cV) ) (ar (au (aw C aq (aw C aa aq bK) cV) ))) aQ) (aj (cu (bh C (aw C (aw C aa aq fg) aq bK) aq) (aj (au (aw C aq (aw C (aw C aa aq fg) aq bK) cV) ) (ar (au (aw C aq (aw C aa aq bK) cV) ))) aQ) (ar (aU (nh (ae aa (ae aa (ae (bG C (ur C) (ae (bG C (eE C) (ae aa (ae aq ai)) ∅ ∅ ∅ ∅ ∅ ∅) (ae aa (ae (aw C aq (aw C (bG C (eE C) (ae aa (ae aq ai)) ∅ ∅ ∅ ∅ ∅ ∅) aq bK) cV) ai))) ∅ ∅ ∅ ∅ ∅ ∅) ai)))))))))))))
def Bw:Cm Fl:=(((ag (af "_law_script") am).b (bA (jz))).b (aH "_law_drawn"))
def Bx:Cm Fl:=(((ag (aD (af "_law_drawn") (al 0)) (ag (aD (af "_law_drawn") (al 1)) (ag ((ag (aD (af "_law_drawn") (al 2)) am).b (ji)) am))).b (mG "Plan" (jg))).b (aH "_law_plan"))
def By:Cm Fl:=(((ag (af "_law_plan") am).b (mG "Room" (gm))).b (aH "_law_room"))
def Bz:Cm Fl:=(((ag (af "_law_plan") am).b (mG "Room" (gm))).b (aH "_law_other"))
def BA:Cm Fl:=(u9.b (aH "_law_mine"))
def BB:Cm Fl:=((((((ag (af "_law_other") (ag (af "_law_drawn") (ag (af "_law_mine") (ag (al 1) (ag (al 7) am))))).b (bA (jQ))).b bz).b d9).b (aC (Cm.p true) ((be .NotEq ((ag (af "_law_mine") am).b bR) ((ag (al 0) am).b fN)).b (aC (Cm.p true) (Cm.p false))))).b (aC ((Cm.p (V.bool false)).b aV) cn))
def BC:Cm Fl:=(u9.b (aH "_law_held_here"))
def wM:Cm Fl:=(((((ag (af "_law_room") (ag (af "_law_drawn") (ag (af "_law_held_here") (ag ((ag (af "_law_script") (ag (af "_law_k") am)).b (bA (cq))) am)))).b (bA (oE))).b bz).b d9).b (aC ((Cm.p (V.bool false)).b aV) cn))
def BD:Cm Fl:=(((ag (al 4) (ag ((ag (af "_law_script") am).b (dw)) am)).b dh).b (ft (aY "_law_k") (wM)))
def BE:Cm Fl:=(((be .NotEq (aI "Room" "pile" (gn) (af "_law_other") am) ((ag (al 1) (ag (aD (af "_law_drawn") (al 0)) am)).b nq)).b (aC (Cm.p true) ((be .NotEq (aI "Room" "things" (jy) (af "_law_other") am) ((ag ((ag (al 0) (ag (aD (aD (af "_law_drawn") (al 2)) (al 0)) am)).b sk) am).b fN)).b (aC (Cm.p true) (Cm.p false))))).b (aC ((Cm.p (V.bool false)).b aV) cn))
def Es:Cm Fl:=((((ag (af "_law_room") (ag (af "_law_held_here") am)).b (bA (kq))).b λv128=>(bz v128).b λb129=>if b129 then ((ag (af "_law_other") (ag (af "_law_mine") am)).b (bA (kq))) else Cm.p v128).b aV)
def Gn:Cm Fl:=(ay (Bw) (ay (Bx) (ay (By) (ay (Bz) (ay (BA) (ay (BB) (ay (BC) (ay (BD) (ay (BE) (Es))))))))))
def Gj:Fc:=ie ["_law_script"] (Gn)
theorem IN:FX 8 437 (Gj) :=
 b7.of C (k:=7) (jD ⟨_,_,_,rfl⟩ (BT λ_=>∅) ∅ rfl) λL =>
 (aj (au (bG C (vk C) (ae aa ai) ∅ ∅ ∅ ∅ ∅ ∅) ) (aj (au (wH C ∅ FD Ce ∅ ∅ Al B9 ∅ (zd C) ∅ (ae (aT C aa aq) (ae (aT C aa aq) (ae (cD C (ae (aT C aa aq) ai) (CL C) ∅ ∅ ∅ ∅ ∅ ∅) ai))) ∅) ) (aj (au (wH C ∅ Bk wn ∅ ∅ tV wl ∅ (rL C) ∅ (ae aa ai) ∅) ) (aj (au (wH C ∅ Bk wn ∅ ∅ tV wl ∅ (rL C) ∅ (ae aa ai) ∅) ) (aj (au sK ) (aj (cu (du (cW (d7 (d8 (bG C (wv C) (ae aa (ae aa (ae aa (ae aq (ae aq ai))))) ∅ ∅ ∅ ∅ ∅ ∅))) (cW (bh C (cD C (ae aa ai) (gh C) ∅ ∅ ∅ ∅ ∅ ∅) (fo (ae aq ai))) fS))) (ar (aU cT)) aQ) (aj (au sK ) (aj (fq (jc C ∅ fH (ae aq (ae (cD C (ae aa ai) (fO C) ∅ ∅ ∅ ∅ ∅ ∅) ai)) ∅) bJ (ar (cu (d7 (d8 (bG C (Av C) (ae aa (ae aa (ae aa (ae (bG C (eE C) (ae aa (ae aa ai)) ∅ ∅ ∅ ∅ ∅ ∅) ai)))) ∅ ∅ ∅ ∅ ∅ ∅))) (ar (aU cT)) aQ)) (λ_=>rfl)) (aj (cu (du (cW (bh C (aK C iK (mO C) aa ai ∅ ∅ rfl rfl ∅ ∅) (CQ C rfl ∅ xo ∅ fH (ae aq (ae (aT C aa aq) ai)) ∅ ∅ ∅)) (cW (bh C (aK C qB (vj C) aa ai ∅ ∅ rfl rfl ∅ ∅) (fo (ae (nh (ae aq (ae (aT C (aT C aa aq) aq) ai))) ai))) fS))) (ar (aU cT)) aQ) (ar (aU (iw (qh (bG C (uq C) (ae aa (ae aa ai)) ∅ ∅ ∅ ∅ ∅ ∅) (oj (bG C (uq C) (ae aa (ae aa ai)) ∅ ∅ ∅ ∅ ∅ ∅)))))))))))))))
end
theorem nK {P:Prop} (h:∀G:Prop,(P->G)->G):P:=h P id
section
variable {α β:Type} {q q':S} {l l':bk} {H H':Hp} {x y z:String} {v w u:V}
theorem bq {m:Cm α} {f:α->Cm β} {a:α} {r:sM S β} (h:m q= .ok a q') (k:f a q'=r):(m.b f) q=r:=by rw [pL,h];exact k
theorem g_a1 {m:Cm V} (h:m q= .ok v q'):ag m am q= .ok [v] q':=bq h rfl
theorem g_cons {m:Cm V} {k:Cm (List V)} {vs:List V} {q₂:S} (h:m q= .ok v q') (h':k q'= .ok vs q₂):ag m k q= .ok (v::vs) q₂:=bq h (bq h' rfl)
theorem g_item {m k:Cm V} {q₂:S} {r:sM S V} (h:m q= .ok v q') (h':k q'= .ok w q₂) (e:aW v w q₂=r):aD m k q=r:=bq h (bq h' e)
theorem g_cmp {o:CmpOp} {m k:Cm V} {b:Bool} {q₂ q₃:S} (h:m q= .ok v q') (h':k q'= .ok w q₂) (e:ew o v w q₂= .ok b q₃):be o m k q= .ok b q₃:=bq h (bq h' (bq e rfl))
theorem g_cmpB {o:CmpOp} {m k:Cm V} {b:Bool} {q₂ q₃:S} (h:m q= .ok v q') (h':k q'= .ok w q₂) (e:ew o v w q₂= .ok b q₃):oo o m k q= .ok (.bool b) q₃:=bq h (bq h' (bq e rfl))
theorem g_bin {f:V->V->Cm V} {m k:Cm V} {q₂:S} {r:sM S V} (h:m q= .ok v q') (h':k q'= .ok w q₂) (e:f v w q₂=r):av f m k q=r:=bq h (bq h' e)
theorem g_meth {c f:String} {F:Fc} {m:Cm V} {k:Cm (List V)} {vs:List V} {q₂ q₃:S} {r:sM S V} (h:m q= .ok v q') (h':db c f v q'= .ok () q₂) (h2:k q₂= .ok vs q₃) (e:bA F (v::vs) q₃=r):aI c f F m k q=r:=bq h (bq h' (bq h2 e))
theorem g_bm {d:Bool} {f:V->V->Cm V} {m k:Cm V} {q₂ q₃:S} {r:sM S V} (h:m q= .ok v q') (h':fQ v q'= .ok d q₂) (h2:k q₂= .ok w q₃) (e:f v w q₃=r):wK d f m k q=r:=bq h (bq h' ((congrFun (if_pos rfl) q₂).trans (bq h2 e)))
theorem g_st (e:upd l x v=l'):aH x v ⟨l,H⟩= .ok .next ⟨l',H⟩:=by rw [<- e];rfl
theorem bx {m:Cm α} {f:α->Cm β} {c:String} (h:m q= .exc c q'):(m.b f) q= .exc c q':=by rw [pL,h]
theorem g_get (h:l x=some v):af x ⟨l,H⟩= .ok v ⟨l,H⟩:=by rw [Gp,h]
theorem g_set (e:upd l x v=l'):aY x v ⟨l,H⟩= .ok () ⟨l',H⟩:=by rw [y8,e]
theorem g_call {F:Fc} {vs:List V} (h:F vs H= .ok v H'):bA F vs ⟨l,H⟩= .ok v ⟨l,H'⟩:=by rw [qJ,h]
theorem ky {F:Fc} {vs:List V} {c:String} (h:F vs H= .exc c H'):bA F vs ⟨l,H⟩= .exc c ⟨l,H'⟩:=by rw [qJ,h]
theorem it_t {b:Bool} {m m':Cm α} {r:sM S α} (hb:b=true) (h:m q=r):(if b=true then m else m') q=r:=by rw [hb];exact h
theorem it_f {b:Bool} {m m':Cm α} {r:sM S α} (hb:b=false) (h:m' q=r):(if b=true then m else m') q=r:=by rw [hb];exact h
theorem it_k {b:Bool} {m m':Cm α} {r:sM S α} (hb:b=false) (h:m q=r):(if b=false then m else m') q=r:=by rw [hb];exact h
theorem iD {i j k:Int} (h:j≠0) (e:i.fdiv j=k):dq (.int i) (.int j) q= .ok (.int k) q:=by rw [<- e];exact congrFun (if_neg h) q
theorem c9 {i j k:Int} (h:j≠0) (e:i.fmod j=k):bw (.int i) (.int j) q= .ok (.int k) q:=by rw [<- e];exact congrFun (if_neg h) q
theorem DA {n:Nat} {vs:List V} {i:Int} {v:V} {l:bk} (h:H[n]? = some (.list vs)) (h0:0<=i/\i<1000000) (hv:vs[i.toNat]? = some v):aW (.ref n) (.int i) ⟨l,H⟩= .ok v ⟨l,H⟩:=by unfold aW;dsimp only;rw [h];dsimp only;rw [if_pos h0,hv]
theorem Dz {n:Nat} {es:List (Int×V)} {i:Int} {v:V} {l:bk} (h:H[n]? = some (.dict es)) (hv:es.lookup i=some v):aW (.ref n) (.int i) ⟨l,H⟩= .ok v ⟨l,H⟩:=by unfold aW;dsimp only;rw [h];dsimp only;rw [hv]
theorem Hh {n:Nat} {es:List (Int×V)} (i:Int) {l:bk} (h:H[n]? = some (.dict es)):rk (.int i) (.ref n) ⟨l,H⟩= .ok (es.lookup i).isSome ⟨l,H⟩:=by unfold rk;dsimp only;rw [h]
theorem Iq {i j:Nat} {xs ys:List V} {l:bk} (h1:H[i]? = some (.list xs)) (h2:H[j]? = some (.list ys)) (h:xs.length+ys.length<=1000000):cY (.ref i) (.ref j) ⟨l,H⟩= .ok (.ref H.length) ⟨l,H++[.list (xs++ys)]⟩:=by unfold cY;dsimp only;rw [h1,h2];dsimp only;rw [if_pos h]
theorem bY {i:Nat} {xs:List V} (h:H[i]? = some (.list xs)):ax (.ref i) H=some xs:=by unfold ax;dsimp only;rw [h]
theorem Iy {i:Nat} {xs:List V} (h:q.H[i]? = some (.list xs)) (hl:xs.length<1000000):dw [.ref i] q= .ok (.int xs.length) q:=by unfold dw;dsimp only;rw [h];exact if_pos hl
theorem fe {c f:String} {i:Nat} {fs:List (String×V)} (h:H[i]? = some (.flds fs)) (hv:fs.lookup f=some v):aA f (.inst c i) ⟨l,H⟩= .ok v ⟨l,H⟩:=by rw [Ed,h];dsimp only;rw [hv]
theorem wL {c f:String} {i:Nat} {fs:List (String×V)} (h:H[i]? = some (.flds fs)) (hl:fs.length<100):bT f v (.inst c i) ⟨l,H⟩= .ok () ⟨l,H.set i (.flds (u7 f v fs))⟩:=by rw [Cq,h];exact if_pos hl
theorem j8 {c f:String} {i:Nat} {fs:List (String×V)} {v:V} (h:H[i]? = some (.flds fs)) (hv:fs.lookup f=some v):aA f (.inst c i) ⟨l,H⟩= .ok v ⟨l,H⟩:=by rw [Ed,h];dsimp only;rw [hv]
theorem dy {c f:String} {i:Nat} {fs:List (String×V)} (h:H[i]? = some (.flds fs)) (hv:fs.lookup f=none):db c f (.inst c i) ⟨l,H⟩= .ok () ⟨l,H⟩:=by rw [Ee,if_pos rfl,h];dsimp only;rw [hv]
theorem ni {c f:String} {fs:List (String×V)} {os:List O} (hl:fs.length<100):bT f v (.inst c H.length) ⟨l,H ++ .flds fs::os⟩= .ok () ⟨l,H ++ .flds (u7 f v fs)::os⟩:=by
 rw [wL (by rw [aaq (aaL _),Nat.sub_self];rfl) hl,List.set_append_right _ _ (aaL _),Nat.sub_self];rfl
theorem xh {α:Type} {i:Nat} {a:α} {f:α->V} {k:Int} (h:H[i]? = some (.list [f a])) (hk:0<=k/\k<=1000000):gB (.ref i) (.int k) ⟨l,H⟩= .ok (.ref H.length) ⟨l,H++[.list ((List.replicate k.toNat a).map f)]⟩:=by
 haveI h2:∀n,(List.replicate n [f a]).flatten=(List.replicate n a).map f:=λn=>by
  induction n with
  | zero=>rfl
  | succ n ih=>rw [List.replicate_succ,List.flatten_cons,ih];rfl
 unfold gB;dsimp only;rw [h];dsimp only
 rw [if_pos ⟨rfl,hk⟩,h2]
theorem wT {n:Nat} {vs:List V} (h:H[n]? = some (.list (v::vs))):aW (.ref n) (.int 0) ⟨l,H⟩= .ok v ⟨l,H⟩:=by unfold aW;dsimp only;rw [h];rfl
theorem zb (a:Int) (n:Nat):bE a (n+1)= .int a::bE (a+1) n:=rfl
theorem Fd (xs ys:List PyData):PyData.eqv (.tuple xs) (.tuple ys)=PyData.eqvAll xs ys:=rfl
theorem yn (x y:PyData) (xs ys:List PyData):PyData.eqvAll (x::xs) (y::ys)=(PyData.eqv x y&&PyData.eqvAll xs ys):=rfl
theorem Ch {α β:Type} (f:α->Option β) (x:α) (xs:List α):eD f (x::xs)=(f x).bind λd=>(eD f xs).map (d :: ·):=rfl
theorem yB {i j:Int} {b:Bool} (h:decide (i=j)=b):tB (.int i) (.int j) q= .ok b q:=by rw [pM,h]
theorem g_ceq {i j:Int} {b:Bool} (h:decide (i=j)=b):ew .Eq (.int i) (.int j) q= .ok b q:=yB h
theorem g_cgt {i j:Int} {b:Bool} (h:decide (i>j)=b):ew .Gt (.int i) (.int j) q= .ok b q:=by rw [<- h];rfl
theorem g_clt {i j:Int} {b:Bool} (h:decide (i<j)=b):ew .Lt (.int i) (.int j) q= .ok b q:=by rw [<- h];rfl
theorem g_cle {i j:Int} {b:Bool} (h:decide (i<=j)=b):ew .LtE (.int i) (.int j) q= .ok b q:=by rw [<- h];rfl
theorem g_ceqv {b:Bool} (h:tB v w q= .ok b q):ew .Eq v w q= .ok b q:=h
theorem g_cin {b:Bool} (h:rk v w q= .ok b q):ew .In v w q= .ok b q:=h
theorem g_pur {a b:α} (h:a=b):Cm.p a q= .ok b q:=by rw [h];rfl
theorem g_ne {b:Bool} (h:tB v w q= .ok b q):ew .NotEq v w q= .ok (!b) q:=bq h rfl
theorem g_nin {b:Bool} (h:rk v w q= .ok b q):ew .NotIn v w q= .ok (!b) q:=bq h rfl
theorem g_nt2:sk [v,w] q= .ok (.tup [v,w]) q:=by unfold sk;rw [if_pos (by simp)];rfl
theorem g_nt3:sk [v,w,u] q= .ok (.tup [v,w,u]) q:=by unfold sk;rw [if_pos (by simp)];rfl
theorem g_nl0 (e:H++[.list []]=H'):fN [] ⟨l,H⟩= .ok (.ref H.length) ⟨l,H'⟩:=by rw [kQ,if_pos (by simp),e]
theorem ah (e:upd l x v=l') (hn:y≠x) (b:l y=some w):l' y=some w:=by rw [<- e,gX _ _ hn];exact b
theorem az (e:upd l x v=l'):l' x=some v:=by rw [<- e,j5]
theorem lp (e:upd (upd l x v) z u=l') (h1:y≠z) (h2:y≠x) (b:l y=some w):l' y=some w:=by rw [<- e,gX _ _ h1,gX _ _ h2];exact b
theorem xN (e:upd (upd l x v) z u=l') (h1:x≠z):l' x=some v:=by rw [<- e,gX _ _ h1,j5]
theorem fZ {caps:List String} (hn:y≠x) (hm:y∈caps) (b:l y=some w):upd (gD caps l) x v y=some w:=by rw [gX _ _ hn,Bt hm];exact b
end
local macro_rules
  | `(tactic| exists $xs,*) => do
    let x:=xs.getElems
    let y:=x
    let f <- `(tactic| with_reducible first $[| exact $x]* $[| exact $y _]*)
    let r <- `(tactic| exact rfl)
    let s <- `(tactic| skip)
    let b:=("g_a1 g_cons g_item g_cmp g_cmpB g_bin g_meth g_bm g_st bq g_nt2 g_nt3 g_get g_set g_call it_t it_f it_k g_ceq g_cgt g_clt g_cle g_ceqv g_cin g_ne g_nin g_nl0 g_pur it_t it_f it_k".splitOn " ").toArray.map λs=>Lean.mkIdent (.str `Mine.Lake s)
    let k := #[s,s,s,s,s,s,s,s,f,s,s,s]++Array.replicate 13 f ++ #[f,f,f,r,r,r]
    `(tactic| (apply Mine.Lake.bq) <;> repeat' (first $[| (with_reducible apply $b; $k:tactic)]* | $f:tactic | $r:tactic | apply Mine.Lake.bq | exact Mine.Lake.pM _ _ _))
noncomputable def bX (a:Int):List Bool->List Int
 | []=>[]
 | true::r=>a::bX (a+1) r
 | false::r=>bX (a+1) r
theorem FT (a:Int) (r:List Bool):bX a (true::r)=a::bX (a+1) r:=rfl
theorem FS (a:Int) (r:List Bool):bX a (false::r)=bX (a+1) r:=rfl
noncomputable def IK:V->Option V
 | .tup [.int i,.bool b]=>if b then some (.int i) else none
 | _=>none
theorem oB:∀(bs:List Bool) (a:Int),(gk a (bs.map V.bool)).filterMap IK=(bX a bs).map V.int
 | [],_=>rfl
 | false::r,a=>oB r (a+1)
 | true::r,a=>congrArg (V.int a :: ·) (oB r (a+1))
theorem Gk {i j k:Int} {q:S} (h:0<=j/\j<=1000000/\i.natAbs<2 ^ 64) (e:i ^ j.toNat=k):oR (.int i) (.int j) q= .ok (.int k) q:=by
 unfold oR;dsimp only;rw [if_pos h,e];rfl
theorem BJ (H:Hp) (k:Int) (h0:0<=k) (h1:k<1000):∃c:Int,cq [.scr,.int k] H= .ok (.int c) H/\c.natAbs<10 ^ 60:=by
 refine nK λG kG=> ?_
 refine bH (aX ["_law_script", "_law_k"] [.scr,.int k]) λl0 e0=> ?_
 have a1:l0 "_law_script" = some .scr:=e0▸rfl
 have a2:l0 "_law_k" = some (.int k):=e0▸rfl
 haveI h6:0<=k/\k<1000000:=⟨h0,by exact cI 0xf4240a090003e8a0911 h1⟩
 by_cases h2:k>=(sn.length:Int)
 ·haveI h7:=decide_eq_true h2
  refine kG ⟨0,a9 (m:=ge) (q:=⟨l0,H⟩) rfl (by rw [e0];refine cX ?_;exists a1,a2,h7),by decide⟩
 haveI h7:=decide_eq_false h2
 haveI h4:sn[k.toNat]? = some sn[k.toNat]:=aao (by exact kK 0x1101fa100fc12 h2 (aai h0))
 refine bH (sn[k.toNat]) λx ex=> ?_
 rw [ex] at h4
 have h5:∀q,aW .scr (.int k) q= .ok (.int x) q:=λq=>by unfold aW;dsimp only;rw [if_pos h6,h4]
 obtain ⟨B,eB⟩:∃B:Int,(10:Int) ^ (60:Int).toNat=B:=⟨_,rfl⟩
 have hB:B=((10 ^ 60:Nat):Int):=by rw [<- eB];decide
 have pw:∀q,oR (.int 10) (.int 60) q= .ok (.int B) q:=λq=>Gk ∅ eB
 have B0:0<B:=by rw [hB];decide
 obtain ⟨y,ey⟩:∃y:Int,(if x<0 then -x else x)=y:=⟨_,rfl⟩
 have ab:∀q,C2 [.int x] q= .ok (.int y) q:=λq=>by rw [<- ey];rfl
 have t1:lJ ⟨l0,H⟩= .ok .next ⟨l0,H⟩:=by exists a1,a2,h7
 by_cases h8:y>=B
 ·haveI h9:=decide_eq_true h8
  haveI md:∀q,bw (.int x) (.int B) q= .ok (.int (x.fmod B)) q:=λq=>c9 (by exact λx9=>cI 0x9096090a1009912 B0 x9) rfl
  haveI rg:=bB x B B0
  refine kG ⟨x.fmod B,a9 (m:=ge) (q:=⟨l0,H⟩) rfl (by rw [e0];refine ak t1 (cX ?_);exists a1,a2,h5,ab,pw,h9,md),by omega⟩
 ·haveI h9:=decide_eq_false h8
  haveI t2:lK ⟨l0,H⟩= .ok .next ⟨l0,H⟩:=by exists a1,a2,h5,ab,pw,h9
  refine kG ⟨x,a9 (m:=ge) (q:=⟨l0,H⟩) rfl (by rw [e0];refine ak t1 (ak t2 ?_);exists a1,a2,h5),?_⟩
  split at ey<;>omega
section
variable (H:Hp)
theorem gE (i:Int):pi [.int i] H= .ok (.bool true) H:=rfl
theorem d5 (i:Int):cQ [.int i] H= .ok (.bool true) H:=rfl
theorem jI (i a b:Int):jP [.int i,.int a,.int b] H= .ok (.bool (decide (a<=i/\i<=b))) H:=by
 rw [Bool.decide_and]
 refine a9 (m:=wp) (q:=⟨aX ["number", "least", "most"] [.int i,.int a,.int b],H⟩) rfl ?_
 cases h1:decide (a<=i)<;>exists gE H i,h1
theorem xP (k:Int) (h0:0<=k) (h1:k<1000):∃c,cq [.scr,.int k] H= .ok (.int c) H:=by
 obtain ⟨c,h,_⟩:=BJ H k h0 h1
 exact ⟨c,h⟩
structure je (len:Int) (xs:List Int):Prop where
 rise:xs.Pairwise (· < ·)
 low:∀x∈xs,1<=x
 top:∀x∈xs,x<=len
theorem je.snoc {len b:Int} {xs:List Int} (h:je len xs) (hb:∀x∈xs,x<b) (h1:1<=b) (h2:b<=len):je len (xs++[b]):=by
 refine ⟨aap.mpr ⟨h.rise,by simp,λx hx y hy=> ?_⟩,λx hx=> ?_,λx hx=> ?_⟩
 ·simp at hy;subst hy;exact hb x hx
 ·rcases aan.mp hx with h3 | h3
  ·exact h.low x h3
  ·simp at h3;exact id (qw 0x119801b1019812 h1 h3)
 ·rcases aan.mp hx with h3 | h3
  ·exact h.top x h3
  ·simp at h3;exact id (EY 0x12802a110812 h2 h3)
theorem Gm {H:Hp} {l:bk} {i:Nat} {vs:List V} (h:H[i]? = some (.list vs)):fQ (.ref i) ⟨l,H⟩= .ok true ⟨l,H⟩:=by rw [xr,h]
structure SB (o:Nat) (len span b r:Int) (l:bk):Prop where
 f:l "_law_found" = some (.ref o)
 b:l "_law_before" = some (.int b)
 r:l "_law_rest" = some (.int r)
 s:l "_law_span" = some (.int span)
 n:l "_law_length" = some (.int len)
theorem lr (len span:Int) (hs:1<=span):∀(ys:List V) (l:bk) (xs:List Int) (b r:Int),SB H.length len span b r l->je len xs->(∀x∈xs,x<=b)->0<=b->xs.length+ys.length<=8 ->
  ∃l' xs',dD (λ_=>True) (aY "_law_turn") (jL) ys ⟨l,H++[.list (xs.map V.int)]⟩= .ok .next ⟨l',H++[.list (xs'.map V.int)]⟩/\l' "_law_found" = some (.ref H.length)/\l' "_law_length" = some (.int len)/\je len xs'/\xs'.length<=8
 | [],l,xs,b,r,hl,hx,_,_,h8=>⟨l,xs,rfl,hl.f,hl.n,hx,h8⟩
 | y::ys,l,xs,b,r,hl,hx,hb,h0,h8=>by
  refine nK λG kG=> ?_
  have m:=bB r span (by exact cI 0x99019811 hs)
  refine bH (b+1+r.fmod span) λb' eb=> ?_
  refine bH (upd l "_law_turn" y) λl1 e1=> ?_
  refine bH (upd l1 "_law_before" (.int b')) λl2 e2=> ?_
  refine bH (upd l2 "_law_rest" (.int (r.fdiv span))) λl3 e3=> ?_
  have c3:=ah e1 ∅ hl.r
  have c4:=ah e1 ∅ hl.s
  have c5:=ah e2 ∅ c4
  have c6:=ah e3 ∅ (az e2)
  have f:=ah e3 ∅ (ah e2 ∅ (ah e1 ∅ hl.f))
  have n:=ah e3 ∅ (ah e2 ∅ (ah e1 ∅ hl.n))
  have L3:SB H.length len span b' (r.fdiv span) l3:=⟨f,c6,az e3,ah e3 ∅ c5,n⟩
  haveI md:∀q,bw (.int r) (.int span) q= .ok (.int (r.fmod span)) q:=λq=>c9 (by exact λx9=>cI 0x9096090a1019812 hs x9) rfl
  haveI dv:∀q,dq (.int r) (.int span) q= .ok (.int (r.fdiv span)) q:=λq=>iD (by exact λx9=>cI 0x9096090a1019812 hs x9) rfl
  haveI ad:∀q,cY (.int (b+1)) (.int (r.fmod span)) q= .ok (.int b') q:=λq=>by rw [<- eb];rfl
  rw [aau] at h8
  have go:∀ {xs':List Int},(∀ {R:Cm Fl},R ⟨l3,H++[.list (xs.map V.int)]⟩= .ok .next ⟨l3,H++[.list (xs'.map V.int)]⟩->(ay ((((af "_law_before").b λv18=>(Cm.p (V.int 1)).b λv19=>cY v18 v19).b λv22=>((af "_law_rest").b λv20=>(af "_law_span").b λv21=>bw v20 v21).b λv23=>cY v22 v23).b λv24=>(aY "_law_before" v24).b λ_=>Cm.p Fl.next) (ay (((af "_law_rest").b λv25=>(af "_law_span").b λv26=>dq v25 v26).b λv27=>(aY "_law_rest" v27).b λ_=>Cm.p Fl.next) R)) ⟨l1,H++[.list (xs.map V.int)]⟩= .ok .next ⟨l3,H++[.list (xs'.map V.int)]⟩):=λ{xs'} {R} hR=>by
   refine ak (q':=⟨l2,H++[.list (xs.map V.int)]⟩) ?_ (ak (q':=⟨l3,H++[.list (xs.map V.int)]⟩) ?_ hR)
   ·exists ah e1 ∅ hl.b,c3,c4,md,ad,e2
   ·exists ah e2 ∅ c3,c5,dv,e3
  by_cases hle:b'<=len
  ·haveI k:decide (b'<=len)=true:=decide_eq_true hle
   obtain ⟨l',xs',t,z⟩:=lr len span hs ys l3 (xs++[b']) b' _ L3 (hx.snoc (λx hx=>by haveI:=hb x hx;exact id (Hi 0x239138120191cca1009813 m.1 eb this)) (by exact EY 0x219821190cca110981009813 h0 m.1 eb) hle) (λx hm=>(aan.mp hm).elim (λhm=>by haveI:=hb x hm;exact id (Hi 0x238138120191cca1009813 m.1 eb this)) λhm=>by rw [aag.mp hm];exact Int.le_refl _) (by exact EY 0x209821190cca110981009813 h0 m.1 eb) (by rw [aac,aaW];exact id (bP 0x891190cc089191c0c011 h8))
   haveI ap:=uh (.int b') l3 (H++[.list (xs.map V.int)]) (ba _ _) (by rw [aak];exact id (bP 0xf4240a0189191c0c011 h8))
   haveI es:(H++[O.list (xs.map V.int)]).set H.length (.list (xs.map V.int++[.int b']))=H++[.list ((xs++[b']).map V.int)]:=by rw [wk,aa7];rfl
   rw [es] at ap
   refine kG ⟨l',xs',(cN (q':=⟨l3,H++[.list ((xs++[b']).map V.int)]⟩) (bq (g_set e1) (go ?_)) trivial).trans t,z⟩
   exists c6,n,k,f,Gm (ba _ _),ap
  ·haveI k:decide (b'<=len)=false:=decide_eq_false hle
   obtain ⟨l',xs',t,z⟩:=lr len span hs ys l3 xs b' _ L3 hx (λx hm=>by haveI:=hb x hm;exact id (Hi 0x238138120191cca1009813 m.1 eb this)) (by exact EY 0x209821190cca110981009813 h0 m.1 eb) (by exact bP 0x8910c089191c0c011 h8)
   refine kG ⟨l',xs',(cN (q':=⟨l3,H++[.list (xs.map V.int)]⟩) (bq (g_set e1) (go ?_)) trivial).trans t,z⟩
   exists c6,n,k
theorem AD (c len many:Int) (h1:1<=len) (h2:1<=many) (h3:many<=8) :
  ∃v H',iA [.int c,.int len,.int many] H= .ok v H'/\ ∃xs,v= .ref H.length/\H<+:H'/\H'[H.length]? = some (.list (xs.map .int))/\je len xs/\xs≠[]/\xs.length<=8:=by
 refine nK λG kG=> ?_
 refine bH (aX ["_law_cell", "_law_length", "_law_many"] [.int c,.int len,.int many]) λl0 e0=> ?_
 refine bH (upd l0 "_law_found" (.ref H.length)) λl1 e1=> ?_
 refine bH (upd l1 "_law_before" (.int 0)) λl2 e2=> ?_
 refine bH (upd l2 "_law_rest" (.int (c.fdiv 3))) λl3 e3=> ?_
 refine bH (upd l3 "_law_span" (.int 4)) λl4 e4=> ?_
 have k:∀ {x:String} {v:V},l0 x=some v->x∉["_law_found", "_law_before", "_law_rest", "_law_span"]->l2 x=some v/\l4 x=some v:=λ{x v} h hx=>by
  haveI n1:x ≠ "_law_found" := λe=>hx (e ▸ .head _)
  haveI n2:x ≠ "_law_before" := λe=>hx (e ▸ .tail _ (.head _))
  haveI n3:x ≠ "_law_rest" := λe=>hx (e ▸ .tail _ (.tail _ (.head _)))
  haveI n4:x ≠ "_law_span" := λe=>hx (e ▸ .tail _ (.tail _ (.tail _ (.head _))))
  have h2:=ah e2 n2 (ah e1 n1 h)
  exact ⟨h2,ah e4 n4 (ah e3 n3 h2)⟩
 have kc:=k (x := "_law_cell") (v:= .int c) (e0▸rfl) ∅
 have kn:=(k (x := "_law_length") (v:= .int len) (e0▸rfl) ∅).2
 have km:=(k (x := "_law_many") (v:= .int many) (e0▸rfl) ∅).2
 haveI d3:∀q,dq (.int c) (.int 3) q= .ok (.int (c.fdiv 3)) q:=λq=>iD ∅ rfl
 have m3:∀q,bw (.int c) (.int 3) q= .ok (.int (c.fmod 3)) q:=λq=>c9 ∅ rfl
 have L4:SB H.length len 4 0 (c.fdiv 3) l4:=⟨ah e4 ∅ (ah e3 ∅ (ah e2 ∅ (az e1))),ah e4 ∅ (ah e3 ∅ (az e2)),ah e4 ∅ (az e3),az e4,kn⟩
 obtain ⟨span,l5,hs,L5,km5,t5⟩:∃span l5,1<=span/\SB H.length len span 0 (c.fdiv 3) l5/\l5 "_law_many" = some (.int many)/\j0 ⟨l4,H++[.list []]⟩= .ok .next ⟨l5,H++[.list []]⟩:=by
  by_cases hc:c.fmod 3=0
  ·haveI kk:decide (c.fmod 3=0)=true:=decide_eq_true hc
   refine bH (upd l4 "_law_span" (.int len)) λl5 e5=> ?_
   refine ⟨len,l5,h1,⟨ah e5 ∅ L4.f,ah e5 ∅ L4.b,ah e5 ∅ L4.r,az e5,ah e5 ∅ kn⟩,ah e5 ∅ km,?_⟩
   exists kc.2,m3,kk,kn,e5
  ·haveI kk:decide (c.fmod 3=0)=false:=decide_eq_false hc
   refine ⟨4,l4,by decide,L4,km,?_⟩
   exists kc.2,m3,kk
 obtain ⟨l6,xs,t6,i1,i5,i7,i10⟩:=lr H len span hs (bE 0 many.toNat) l5 [] 0 _ L5 ⟨.nil,λ_ h=>(nomatch h),λ_ h=>(nomatch h)⟩ (λ_ h=>(nomatch h)) (Int.le_refl _) (by rw [gf,List.length_nil];exact id (dE 0x89009c000fa1890812 h3 (aai (cI 0x98019811 h2))))
 haveI rv:=iN many ⟨l5,H++[.list []]⟩ ⟨by exact cI 0xf4240a1b9019811 h2,by exact cI 0xf4240a09890811 h3⟩
 have q0:=jX (q:=⟨l6,H++[O.list (xs.map V.int)]++[O.list []]⟩) (i:=H.length) (j:=(H++[O.list (xs.map V.int)]).length) (xs:=xs) (ys:=[]) (aE ⟨_,rfl⟩ (ba _ _)) (ba _ _)
 have gZ:∀ {ys:List Int},j3 ⟨l6,H++[.list (xs.map V.int)]⟩= .ok .next ⟨l6,H++[O.list (ys.map V.int)]++[O.list []]⟩->je len ys->ys≠[]->ys.length<=8->G:=λ{ys} t7 s1 s2 s3=>by
  refine kG ⟨.ref H.length,H++[O.list (ys.map V.int)]++[O.list []],a9 (m:=mF) (q:=⟨l6,H++[O.list (ys.map V.int)]++[O.list []]⟩) rfl ?_,ys,rfl,(aaz _ _).trans (aaz _ _),aE ⟨_,rfl⟩ (ba _ _),s1,s2,s3⟩
  rw [e0]
  refine ak (q':=⟨l1,H++[.list []]⟩) (bq (bq rfl (g_nl0 rfl)) (bq (g_set e1) rfl)) (ak (q':=⟨l2,H++[.list []]⟩) (bq rfl (bq (g_set e2) rfl)) (ak (q':=⟨l3,H++[.list []]⟩) ?_ (ak (q':=⟨l4,H++[.list []]⟩) (bq rfl (bq (g_set e4) rfl)) (ak t5 (ak (q':=⟨l6,H++[O.list (xs.map V.int)]⟩) (bq (a:=⟨bE 0 many.toNat,λ_=>True⟩) (q':=⟨l5,H++[O.list []]⟩) (bq (bq (g_get km5) (bq rfl rfl)) rv) t6) (ak t7 (bq (g_get i1) rfl)))))))
  exists kc.1,d3,e3
 by_cases hx:xs=[]
 ·subst hx
  haveI ap:=uh (.int len) l6 (H++[O.list []]++[O.list []]) (i:=H.length) (xs:=[]) (aE ⟨_,rfl⟩ (ba _ _)) ∅
  haveI es:(H++[O.list []]++[O.list []]).set H.length (.list ([]++[.int len]))=H++[.list ([len].map V.int)]++[O.list []]:=by rw [List.set_append_left _ _ (by rw [aac];exact Nat.lt_succ_self _),wk];rfl
  rw [es] at ap
  refine gZ (ys:=[len]) ?_ ⟨abe _ _,λx hx=>by rw [aag.mp hx];exact h1,λx hx=>by rw [aag.mp hx];exact Int.le_refl _⟩ (List.cons_ne_nil _ _) (abc rfl)
  exact bq (bq (g_get i1) (bq (bq rfl (g_nl0 rfl)) (bq (g_ceqv q0) rfl))) (it_t rfl (bq (bq (g_get i1) (bq (Gm (aE ⟨_,rfl⟩ (ba H _))) (it_t rfl (bq (g_get i5) ap)))) rfl))
 ·rw [decide_eq_false hx] at q0
  refine gZ (ys:=xs) ?_ i7 hx i10
  exists i1,q0
noncomputable def hG (p len:Int) (m:Nat):List (String×V):=[("pages",.int p),("length",.int len),("sizes",.ref m)]
theorem D9 (p len:Int) (m:Nat):(hG p len m).lookup "pages" = some (.int p):=rfl
theorem wt (p len:Int) (m:Nat):(hG p len m).lookup "length" = some (.int len):=rfl
theorem uf (p len:Int) (m:Nat):(hG p len m).lookup "sizes" = some (.ref m):=rfl
theorem Hw (p len:Int) (m:Nat):(hG p len m).lookup "size_for" = none:=rfl
theorem Eb (p len:Int) (m:Nat):(hG p len m).lookup "per" = none:=rfl
structure zN (H:Hp) (i:Nat) (p len:Int) (xs:List Int):Prop where
 at':∃m,H[i]? = some (.flds (hG p len m))/\H[m]? = some (.list (xs.map V.int))
structure Ju (n j:Nat) (p len last:Int) (l:bk):Prop where
 la:l "last" = some (.int last)
 le:l "length" = some (.int len)
 se:l "self" = some (.inst "Plan" n)
 pa:l "pages" = some (.int p)
 si:l "sizes" = some (.ref j)
theorem rT (n j:Nat) (p len:Int) (zs:List V) (hj:ax (.ref j) H=some zs):∀(ys:List Int) (l:bk) (last:Int),Ju n j p len last l->(∀y∈ys,last<y/\y<=len)->ys.Pairwise (· < ·) ->
  ∃l' last',dD (λH=>ax (.ref j) H=some zs) (aY "size") (nF) (ys.map V.int) ⟨l,H⟩= .ok .next ⟨l',H⟩/\Ju n j p len last' l'
 | [],l,last,h,_,_=>⟨l,last,rfl,h⟩
 | y::ys,l,last,h,h7,h8=>by
  refine nK λG kG=> ?_
  refine bH (upd l "size" (.int y)) λl1 e1=> ?_
  refine bH (upd l1 "last" (.int y)) λl2 e2=> ?_
  haveI hy:=h7 y (.head _)
  haveI bt:=jI H y (last+1) len
  rw [decide_eq_true (show last+1<=y/\y<=len from hy)] at bt
  have n1:=ah e1 ∅ h.le
  have h8':=aaJ.mp h8
  obtain ⟨l',last',t,z⟩:=rT n j p len zs hj ys l2 y ⟨az e2,ah e2 ∅ n1,ah e2 ∅ (ah e1 ∅ h.se),ah e2 ∅ (ah e1 ∅ h.pa),ah e2 ∅ (ah e1 ∅ h.si)⟩ (λz hz=>⟨h8'.1 z hz,(h7 z (.tail _ hz)).2⟩) h8'.2
  refine kG ⟨l',last',(cN (q':=⟨l2,H⟩) (bq (g_set e1) (ak (q':=⟨l1,H⟩) ?_ ?_)) hj).trans t,z⟩
  ·exists az e1,ah e1 ∅ h.la,n1,bt
  ·exists az e1,e2
theorem HN (n j:Nat) (p len:Int) (xs:List Int) (hp:1<=p/\p<=40) (hl:1<=len/\len<=60) (hx:je len xs) (hne:xs≠[]) (h8:xs.length<=8) (hn:H[n]? = some (.flds [])) (hj:H[j]? = some (.list (xs.map V.int))) :
  jg [.inst "Plan" n,.int p,.int len,.ref j] H= .ok .none ((H++[O.list (xs.map V.int)]).set n (.flds (hG p len H.length))):=by
 obtain ⟨R,eR⟩:∃R,(H++[O.list (xs.map V.int)]).set n (.flds (hG p len H.length))=R:=⟨_,rfl⟩
 rw [eR]
 have hnj:n≠j:=λe=>by rw [e,hj] at hn;cases hn
 have hnl:n<H.length:=(aab.mp hn).1
 have hit:ax (.ref j) H=some (xs.map V.int):=bY hj
 haveI hlen:decide (1<=((xs.map V.int).length:Int))=true:=decide_eq_true (by
  cases xs with
  | nil=>exact absurd rfl hne
  | cons x xs=>rw [aak,aau];exact id (bO 0x190cf1980))
 haveI hlen8:decide (((xs.map V.int).length:Int)<=8)=true:=decide_eq_true (by rw [aak];exact id (bO 0x890f8890011 h8))
 have hlm:(xs.map V.int).length<1000000:=by rw [aak];exact id (bO 0xf4240a01890011 h8)
 obtain ⟨l0,e0,a1,a2,a3,a4⟩:∃l0,aX ["self", "pages", "length", "sizes"] [.inst "Plan" n,.int p,.int len,.ref j]=l0/\l0 "self" = some (.inst "Plan" n)/\l0 "pages" = some (.int p)/\l0 "length" = some (.int len)/\l0 "sizes" = some (.ref j):=⟨_,rfl,rfl,rfl,rfl,rfl⟩
 obtain ⟨l1,e1⟩:∃l1,upd l0 "last" (.int 0)=l1:=⟨_,rfl⟩
 have a5:=ah e1 ∅ a4
 obtain ⟨l',last,hq,hI⟩:=rT H n j p len _ hit xs l1 0 ⟨az e1,ah e1 ∅ a3,ah e1 ∅ a1,ah e1 ∅ a2,a5⟩ (λy hy=>⟨hx.low y hy,hx.top y hy⟩) hx.rise
 haveI b1:=jI H p 1 40
 haveI b2:=jI H len 1 60
 rw [decide_eq_true hp] at b1
 rw [decide_eq_true hl] at b2
 haveI ty:∀l,po "list" (.ref j) ⟨l,H⟩= .ok (.bool true) ⟨l,H⟩:=λl=>by
  haveI:xM H (.ref j)=some "list" := by unfold xM;dsimp only;rw [hj]
  rw [Gq,this];rfl
 haveI ln:∀l,dw [.ref j] ⟨l,H⟩= .ok (.int (xs.map V.int).length) ⟨l,H⟩:=λl=>Iy hj hlm
 obtain ⟨H1,f1⟩:∃H1,H.set n (.flds [("pages",.int p)])=H1:=⟨_,rfl⟩
 obtain ⟨H2,f2⟩:∃H2,H1.set n (.flds [("pages",.int p),("length",.int len)])=H2:=⟨_,rfl⟩
 haveI c1:H1[n]? = some (.flds [("pages",.int p)]):=by rw [<- f1];exact aaB hnl
 have l1':H1.length=H.length:=by rw [<- f1];exact List.length_set
 have l2':H2.length=H.length:=by rw [<- f2,List.length_set];exact l1'
 haveI c2:H2[n]? = some (.flds [("pages",.int p),("length",.int len)]):=by rw [<- f2];exact aaB (l1'▸hnl)
 haveI c3:H2[j]? = some (.list (xs.map V.int)):=by rw [<- f2,aaC hnj,<- f1,aaC hnj];exact hj
 haveI s7:∀l,ji [.ref j] ⟨l,H2⟩= .ok (.ref H.length) ⟨l,H2++[.list (xs.map V.int)]⟩:=λl=>by rw [y7 l _ (bY c3) (Nat.le_of_lt hlm),l2']
 haveI c4:(H2++[O.list (xs.map V.int)])[n]? = some (.flds [("pages",.int p),("length",.int len)]):=aE ⟨_,rfl⟩ c2
 haveI e7:(H2++[O.list (xs.map V.int)]).set n (.flds (hG p len H.length))=R:=by
  rw [<- eR,List.set_append_left _ _ (l2'▸hnl),List.set_append_left _ _ hnl,<- f2,<- f1,List.set_set,List.set_set]
 haveI u1:∀l,bT "pages" (.int p) (.inst "Plan" n) ⟨l,H⟩= .ok () ⟨l,H1⟩:=λl=>by rw [<- f1];exact wL hn ∅
 haveI u2:∀l,bT "length" (.int len) (.inst "Plan" n) ⟨l,H1⟩= .ok () ⟨l,H2⟩:=λl=>by rw [<- f2];exact wL c1 (abc rfl)
 haveI u3:∀l,bT "sizes" (.ref H.length) (.inst "Plan" n) ⟨l,H2++[O.list (xs.map V.int)]⟩= .ok () ⟨l,R⟩:=λl=>by rw [<- e7];exact wL c4 (abc rfl)
 refine nk (m:=ry) (q:=⟨l',R⟩) rfl ?_
 rw [e0]
 refine ak (q':=⟨l0,H⟩) ?_ (ak (q':=⟨l0,H⟩) ?_ (ak (q':=⟨l1,H⟩) (bq rfl (bq (g_set e1) rfl)) (ak (q':=⟨l',H⟩) ?_ (ak (q':=⟨l',H1⟩) ?_ (ak (q':=⟨l',H2⟩) ?_ ?_)))))
 ·exists a2,a3,b1,b2
 ·exists a4,ty,ln,hlen,hlen8
 ·exact bq (bq (g_get a5) (by rw [qL,hit])) hq
 ·exists hI.pa,hI.se,u1
 ·exists hI.le,hI.se,u2
 ·exists hI.si,s7,hI.se,u3
theorem m7 {g:Hp->Prop} {x w:String} (hxw:x≠w) {body:Cm Fl} (wish:Int) (hg:g H)
  (hb:∀l y,l x=some (.int y)->l w=some (.int wish)->body ⟨l,H⟩=if y>=wish then .ok (.ret (.int y)) ⟨l,H⟩ else .ok .next ⟨l,H⟩) :
  ∀(xs:List Int) (l:bk),l w=some (.int wish)-> ∃l',l' w=some (.int wish)/\dD g (aY x) body (xs.map V.int) ⟨l,H⟩=match xs.find? (λx=>decide (x>=wish)) with | some y=> .ok (.ret (.int y)) ⟨l',H⟩ | none=> .ok .next ⟨l',H⟩
 | [],l,hw=>⟨l,hw,rfl⟩
 | y::ys,l,hw=>by
  have hw':upd l x (.int y) w=some (.int wish):=by rw [gX _ _ (Ne.symm hxw)];exact hw
  haveI:=hb (upd l x (.int y)) y (j5 _ _ _) hw'
  have ht:((aY x (.int y)).b λ_=>body) ⟨l,H⟩=if y>=wish then .ok (.ret (.int y)) ⟨upd l x (.int y),H⟩ else .ok .next ⟨upd l x (.int y),H⟩:=by rw [pL,y8];exact this
  by_cases hy:y>=wish
  ·rw [if_pos hy] at ht
   refine ⟨upd l x (.int y),hw',?_⟩
   rw [aas,yv ht,aaG (by simpa using hy)]
  ·rw [if_neg hy] at ht
   rw [aas,cN ht hg,aay (by simpa using hy)]
   exact m7 hxw wish hg hb ys _ hw'
theorem uV (i:Nat) (p len:Int) (xs:List Int) (wish:Int) (hi:zN H i p len xs):eU [.inst "Plan" i,.int wish] H =
  if wish<1 then .exc "BadWish" H else match xs.find? (λx=>decide (x>=wish)) with | some y=> .ok (.int y) H | none=> .exc "TooLarge" H:=by
 obtain ⟨m,h1,h2⟩:=hi.at'
 obtain ⟨l0,e0,a1,a2⟩:∃l0,aX ["self", "wish"] [.inst "Plan" i,.int wish]=l0/\l0 "self" = some (.inst "Plan" i)/\l0 "wish" = some (.int wish):=⟨_,rfl,rfl,rfl⟩
 have hit:ax (.ref m) H=some (xs.map V.int):=bY h2
 by_cases hw:wish<1
 ·haveI hd:=decide_eq_true hw
  rw [if_pos hw]
  refine iC (m:=eX) (q:=⟨l0,H⟩) rfl (jn ?_)
  rw [e0]
  exists a2,gE H wish,hd
 ·haveI hd:=decide_eq_false hw
  rw [if_neg hw]
  have s1:jo ⟨l0,H⟩= .ok .next ⟨l0,H⟩:=by exists a2,gE H wish,hd
  obtain ⟨l',hw',hl⟩:=m7 H (g:=λH=>ax (.ref m) H=some (xs.map V.int)) (x := "size") (w := "wish") ∅ (body:=fv) wish hit
   (λl y h1 h2=>by
    by_cases hy:y>=wish
    ·rw [if_pos hy];exact bq (bq (g_get h1) (bq (g_get h2) rfl)) (it_t (decide_eq_true hy) (bq (g_get h1) rfl))
    ·rw [if_neg hy];exact bq (bq (g_get h1) (bq (g_get h2) rfl)) (it_f (decide_eq_false hy) rfl)) xs l0 a2
  have s2:jp ⟨l0,H⟩=dD (λH=>ax (.ref m) H=some (xs.map V.int)) (aY "size") (fv) (xs.map V.int) ⟨l0,H⟩ :=
   bq (bq (bq (g_get a1) (fe h1 (uf _ _ _))) (by rw [qL,hit])) rfl
  rw [hl] at s2
  cases hf:xs.find? (λx=>decide (x>=wish)) with
  | some y =>
   rw [hf] at s2
   exact a9 (m:=eX) (q:=⟨l',H⟩) rfl (by rw [e0];exact ak s1 (cX s2))
  | none =>
   rw [hf] at s2
   exact iC (m:=eX) (q:=⟨l',H⟩) rfl (by rw [e0];exact ak s1 (ak s2 rfl))
theorem IR (i:Nat) (p len:Int) (xs:List Int) (z:Int) (hi:zN H i p len xs) (hz:z∈xs->z≠0):fU [.inst "Plan" i,.int z] H=if z∈xs then .ok (.int (len.fdiv z)) H else .exc "NoSize" H:=by
 obtain ⟨m,h1,h2⟩:=hi.at'
 obtain ⟨l0,e0,a1,a2⟩:∃l0,aX ["self", "size"] [.inst "Plan" i,.int z]=l0/\l0 "self" = some (.inst "Plan" i)/\l0 "size" = some (.int z):=⟨_,rfl,rfl,rfl⟩
 have hin:rk (.int z) (.ref m) ⟨l0,H⟩= .ok (decide (z∈xs)) ⟨l0,H⟩:=qK (q:=⟨l0,H⟩) h2
 by_cases hw:z∈xs
 ·rw [if_pos hw]
  rw [decide_eq_true hw] at hin
  refine a9 (m:=oN) (q:=⟨l0,H⟩) rfl ?_
  rw [e0]
  refine ak (q':=⟨l0,H⟩) ?_ (bq (bq (bq (g_get a1) (fe h1 (wt _ _ _))) (bq (g_get a2) (iD (hz hw) rfl))) rfl)
  exists a1,a2,gE H z,fe h1 (uf _ _ _),hin
 ·rw [if_neg hw]
  rw [decide_eq_false hw] at hin
  refine iC (m:=oN) (q:=⟨l0,H⟩) rfl (jn ?_)
  rw [e0]
  exists a1,a2,gE H z,fe h1 (uf _ _ _),hin
noncomputable def gS (p z:Int) (t:Nat):List (String×V):=[("page",.int p),("size",.int z),("taken",.ref t)]
theorem FQ (p z:Int) (t:Nat):(gS p z t).lookup "page" = some (.int p):=rfl
theorem FR (p z:Int) (t:Nat):(gS p z t).lookup "size" = some (.int z):=rfl
theorem iR (p z:Int) (t:Nat):(gS p z t).lookup "taken" = some (.ref t):=rfl
theorem Em (p z:Int) (t:Nat):(gS p z t).lookup "has" = none:=rfl
theorem HE (p z:Int) (t:Nat):(gS p z t).lookup "out" = none:=rfl
structure jd (H:Hp) (i t:Nat) (p z:Int) (bs:List Bool):Prop where
 ob:H[i]? = some (.flds (gS p z t))
 ls:H[t]? = some (.list (bs.map V.bool))
theorem HO (p z k:Int) (hk:0<=k/\k<=1000) (l:bk):mG "Shelf" (ic) [.int p,.int z,.int k] ⟨l,H⟩ =
  .ok (.inst "Shelf" H.length) ⟨l,H++[.flds (gS p z (H.length+2)),.list [.bool false],.list ((List.replicate k.toNat false).map V.bool)]⟩:=by
 obtain ⟨l0,e0,a1,a2,a3,a4⟩:∃l0,aX ["self", "page", "size", "slots"] [.inst "Shelf" H.length,.int p,.int z,.int k]=l0/\l0 "self" = some (.inst "Shelf" H.length)/\l0 "page" = some (.int p)/\l0 "size" = some (.int z)/\l0 "slots" = some (.int k):=⟨_,rfl,rfl,rfl,rfl,rfl⟩
 obtain ⟨R,eR⟩:∃R,O.list ((List.replicate k.toNat false).map V.bool)=R:=⟨_,rfl⟩
 rw [eR]
 haveI hn:∀l,fN [.bool false] ⟨l,H++[.flds [("page",.int p),("size",.int z)]]⟩= .ok (.ref (H.length+1)) ⟨l,H++[.flds [("page",.int p),("size",.int z)],.list [.bool false]]⟩:=λl=>by
  rw [kQ,if_pos (abc rfl),aac,aad];rfl
 haveI hm:∀l,gB (.ref (H.length+1)) (.int k) ⟨l,H++[.flds [("page",.int p),("size",.int z)],.list [.bool false]]⟩= .ok (.ref (H.length+2)) ⟨l,H++[.flds [("page",.int p),("size",.int z)],.list [.bool false],R]⟩:=λl=>by
  rw [xh (a:=false) (f:=V.bool) (by rw [aaq (aaK _ _),aaF];rfl) ⟨hk.1,aa9 hk.2 ∅⟩,eR,aac,aad];rfl
 rw [At,show ic [.inst "Shelf" H.length,.int p,.int z,.int k] (H++[.flds []])= .ok .none (H++[.flds (gS p z (H.length+2)),.list [.bool false],R]) from ?_]
 refine nk (m:=pF) (q:=⟨l0,H++[.flds (gS p z (H.length+2)),.list [.bool false],R]⟩) rfl ?_
 rw [e0]
 refine ak (q':=⟨l0,H++[.flds [("page",.int p)]]⟩) ?_ (ak (q':=⟨l0,H++[.flds [("page",.int p),("size",.int z)]]⟩) ?_ ?_)
 ·exists a1,a2,ni (fs:=[]) ∅
 ·exists a1,a3,ni (fs:=[("page",.int p)]) (abc rfl)
 ·exists hn,a4,hm,a1,ni (fs:=[("page",.int p),("size",.int z)]) (abc rfl)
section
variable {H} {i t:Nat} {p z:Int} {bs:List Bool} (hS:jd H i t p z bs) (hb:bs.length<=1000)
include hS hb
theorem wz:∀(r:List Bool) (a:Nat) (l:bk),l "self" = some (.inst "Shelf" i)->bs.drop a=r ->
  (match bg r with
  | some j=> ∃l',dD (λ_=>True) (aY "slot") (cG) (bE a r.length) ⟨l,H⟩= .ok (.ret (.int ((a+j:Nat):Int))) ⟨l',H.set t (.list ((bs.set (a+j) true).map V.bool))⟩
  | none=> ∃l',dD (λ_=>True) (aY "slot") (cG) (bE a r.length) ⟨l,H⟩= .ok .next ⟨l',H⟩)
 | [],a,l,_,_=>⟨l,rfl⟩
 | b::r,a,l,h1,e=>by
  refine nK λG kG=> ?_
  have hg:bs[a]? = some b:=by
   haveI:(bs.drop a)[0]? = some b:=by rw [e];rfl
   rw [List.getElem?_drop] at this;exact this
  haveI hr:bs.drop (a+1)=r:=by rw [<- List.drop_drop,e];rfl
  have hlt:a<bs.length:=(aab.mp hg).1
  have hi:∀l,aW (.ref t) (.int a) ⟨l,H⟩= .ok (.bool b) ⟨l,H⟩:=λl=>rJ hS.ls (Int.natCast_nonneg _) (by exact bP 0xf4240a1f901110003e8a0012 hb hlt) hg
  refine bH (upd l "slot" (.int a)) λl1 e1=> ?_
  have b1:=ah e1 ∅ h1
  have b2:=az e1
  have ta:=fe (l:=l1) (c := "Shelf") hS.ob (iR _ _ _)
  cases b with
  | false =>
   haveI hs:∀l,bL (.ref t) (.int a) (.bool true) ⟨l,H⟩= .ok () ⟨l,H.set t (.list ((bs.set a true).map V.bool))⟩:=λl=>mL hS.ls (Int.natCast_nonneg _) (by exact bP 0xf4240a1f901110003e8a0012 hb hlt) (by exact bP 0x1f0f910111 hlt)
   refine kG ⟨l1,yv (bq (g_set e1) (bq (a:=true) (q':=⟨l1,H⟩) ?_ (it_t rfl (ak (q':=⟨l1,H.set t (.list ((bs.set a true).map V.bool))⟩) ?_ (bq (g_get b2) rfl)))))⟩
   ·exists b1,ta,b2,hi
   ·exists b1,ta,b2,hs
  | true =>
   haveI ht:((aY "slot" (.int a)).b λ_=>cG) ⟨l,H⟩= .ok .next ⟨l1,H⟩:=bq (g_set e1) (by exists b1,ta,b2,hi)
   have ih:=wz r (a+1) l1 b1 hr
   have g:∀x,dD (λ_=>True) (aY "slot") (cG) (bE ((a+1:Nat):Int) r.length) ⟨l1,H⟩=x->dD (λ_=>True) (aY "slot") (cG) (bE a (true::r).length) ⟨l,H⟩=x:=λx hx=>(cN ht trivial).trans hx
   rw [show bg (true::r)=(bg r).map (· + 1) from rfl] at kG
   cases hf:bg r with
   | none =>
    rw [hf] at ih kG
    obtain ⟨l',ih⟩:=ih
    exact kG ⟨l',g _ ih⟩
   | some j =>
    rw [hf] at ih kG
    obtain ⟨l',ih⟩:=ih
    rw [Nat.add_right_comm] at ih
    exact kG ⟨l',g _ ih⟩
theorem HQ:fD [.inst "Shelf" i] H=match bg bs with
  | some j=> .ok (.int j) (H.set t (.list ((bs.set j true).map V.bool)))
  | none=> .exc "NoRoom" H:=by
 haveI hl:∀l,dw [.ref t] ⟨l,H⟩= .ok (.int bs.length) ⟨l,H⟩:=λl=>by rw [cj hS.ls (by rw [aak];exact id (bO 0xf4240a010003e8a0011 hb)),aak]
 haveI hr:∀q,dh [.int bs.length] q= .ok ⟨bE 0 bs.length,λ_=>True⟩ q:=λq=>by rw [iN _ _ ⟨by exact bO 0xf0f4240a1b90,by exact bO 0xf4240a0f90003e8a0011 hb⟩];rfl
 obtain ⟨l0,e0,a1⟩:∃l0,aX ["self"] [.inst "Shelf" i]=l0/\l0 "self" = some (.inst "Shelf" i):=⟨_,rfl,rfl⟩
 have h1:∀r,dD (λ_=>True) (aY "slot") (cG) (bE 0 bs.length) ⟨l0,H⟩=r->mY ⟨l0,H⟩=r:=λr e=>by
  refine bq (a:=⟨bE 0 bs.length,λ_=>True⟩) (q':=⟨l0,H⟩) ?_ e
  exists a1,fe hS.ob (iR _ _ _),hl,hr
 have L:=wz hS hb bs 0 l0 a1 rfl
 cases hf:bg bs with
 | none =>
  rw [hf] at L
  obtain ⟨l',L⟩:=L
  exact iC (m:=kJ) (q:=⟨l',H⟩) rfl (by rw [e0];exact ak (h1 _ L) rfl)
 | some j =>
  rw [hf] at L
  obtain ⟨l',L⟩:=L
  rw [aa6] at L
  exact a9 (m:=kJ) rfl (by rw [e0];exact cX (h1 _ L))
theorem GD (k:Int):jh [.inst "Shelf" i,.int k] H= .ok (.bool (nQ bs k)) H:=by
 have hl:∀l,dw [.ref t] ⟨l,H⟩= .ok (.int bs.length) ⟨l,H⟩:=λl=>by rw [cj hS.ls (by rw [aak];exact id (bO 0xf4240a010003e8a0011 hb)),aak]
 obtain ⟨l0,e0,a1,a2⟩:∃l0,aX ["self", "slot"] [.inst "Shelf" i,.int k]=l0/\l0 "self" = some (.inst "Shelf" i)/\l0 "slot" = some (.int k):=⟨_,rfl,rfl,rfl⟩
 have ta:=fe (l:=l0) (c := "Shelf") hS.ob (iR _ _ _)
 refine a9 (m:=rD) (q:=⟨l0,H⟩) rfl ?_
 rw [e0]
 by_cases h0:0<=k
 ·have d0:=decide_eq_true h0
  by_cases h1:k<bs.length
  ·haveI d1:=decide_eq_true h1
   have hg:bs[k.toNat]? = some bs[k.toNat]:=aao (by exact kK 0x1101fa10f0912 h1 (aai h0))
   haveI hi:∀l,aW (.ref t) (.int k) ⟨l,H⟩= .ok (.bool bs[k.toNat]) ⟨l,H⟩:=λl=>rJ hS.ls h0 (by exact dE 0xf4240a090f0910003e8a0012 hb h1) hg
   haveI e:nQ bs k=bs[k.toNat]:=by unfold nQ;rw [if_pos ⟨h0,h1⟩,hg];rfl
   rw [e]
   exists a1,a2,d0,ta,hl,d1,hi
  ·haveI d1:=decide_eq_false h1
   haveI e:nQ bs k=false:=if_neg λh=>h1 h.2
   rw [e]
   exists a1,a2,d0,ta,hl,d1
 ·haveI d0:=decide_eq_false h0
  haveI e:nQ bs k=false:=if_neg λh=>h0 h.1
  rw [e]
  exists a1,a2,d0
theorem HL (k:Int):ko [.inst "Shelf" i,.int k] H=if nQ bs k then .ok .none (H.set t (.list ((bs.set k.toNat false).map V.bool))) else .exc "NotOut" H:=by
 have hh:=GD hS hb k
 obtain ⟨l0,e0,a1,a2⟩:∃l0,aX ["self", "slot"] [.inst "Shelf" i,.int k]=l0/\l0 "self" = some (.inst "Shelf" i)/\l0 "slot" = some (.int k):=⟨_,rfl,rfl,rfl⟩
 have me:=dy (l:=l0) (c := "Shelf") hS.ob (Em _ _ _)
 cases hg:nQ bs k with
 | false =>
  rw [hg] at hh
  refine iC (m:=kI) (q:=⟨l0,H⟩) rfl (jn ?_)
  rw [e0]
  exists a1,a2,me,hh
 | true =>
  rw [hg] at hh
  have hk:0<=k/\k<bs.length:=Classical.byContradiction λh=>by
   have:nQ bs k=false:=if_neg h
   rw [this] at hg;cases hg
  haveI hs:∀l,bL (.ref t) (.int k) (.bool false) ⟨l,H⟩= .ok () ⟨l,H.set t (.list ((bs.set k.toNat false).map V.bool))⟩:=λl=>mL hS.ls hk.1 (by exact dE 0xf4240a090f0910003e8a0012 hb hk.2) hk.2
  refine nk (m:=kI) (q:=⟨l0,H.set t (.list ((bs.set k.toNat false).map V.bool))⟩) rfl ?_
  rw [e0]
  refine ak (q':=⟨l0,H⟩) ?_ ?_
  ·exists a1,a2,me,hh
  ·exists a1,a2,fe hS.ob (iR _ _ _),hs
theorem HK:dU [.inst "Shelf" i] H= .ok (.ref H.length) (H++[.list ((gw 0 bs).map V.int)]):=by
 obtain ⟨l0,e0,a1⟩:∃l0,aX ["self"] [.inst "Shelf" i]=l0/\l0 "self" = some (.inst "Shelf" i):=⟨_,rfl,rfl⟩
 have hit:ax (.ref t) H=some (bs.map V.bool):=bY hS.ls
 haveI hc:mn ⟨l0,H⟩= .ok (.ref H.length) ⟨l0,H++[.list ((gw 0 bs).map V.int)]⟩:=by
  refine ip (it:=⟨gk 0 (bs.map V.bool),λH=>ax (.ref t) H=some (bs.map V.bool)⟩) (H1:=H) ?_ (by rw [hV,aak];exact id (bO 0xf4240a000003e8a0011 hb)) ?_
  ·haveI en:∀l,nO [.ref t] ⟨l,H⟩= .ok ⟨gk 0 (bs.map V.bool),λH=>ax (.ref t) H=some (bs.map V.bool)⟩ ⟨l,H⟩:=λl=>by unfold nO;dsimp only;rw [hit]
   exists a1,fe hS.ob (iR _ _ _),en
  ·rw [<- oA]
   refine io hit IJ _ λx hx=> ?_
   obtain ⟨j,b,rfl⟩:=tA _ _ _ hx
   have h1:ww "slot" "one" (.tup [.int j,.bool b]) ⟨gD [] l0,H⟩= .ok () ⟨upd (upd (gD [] l0) "slot" (.int j)) "one" (.bool b),H⟩:=rfl
   cases b with
   | false=>exact fC (H2:=H) (H3:=H) h1 rfl rfl
   | true=>exact gj h1 rfl
 refine a9 (m:=pD) (q:=⟨l0,_⟩) rfl ?_
 rw [e0]
 exact bq hc rfl
theorem GE:bQ [.inst "Shelf" i] H= .ok (.int (bs.count true)) (H++[.list (List.replicate (bs.count true) (V.bool true))]):=by
 obtain ⟨l0,e0,a1⟩:∃l0,aX ["self"] [.inst "Shelf" i]=l0/\l0 "self" = some (.inst "Shelf" i):=⟨_,rfl,rfl⟩
 have hit:ax (.ref t) H=some (bs.map V.bool):=bY hS.ls
 haveI hcl:bs.count true<=bs.length:=List.count_le_length
 haveI hc:nN ⟨l0,H⟩= .ok (.ref H.length) ⟨l0,H++[.list (List.replicate (bs.count true) (V.bool true))]⟩:=by
  refine ip (it:=⟨bs.map V.bool,λH=>ax (.ref t) H=some (bs.map V.bool)⟩) (H1:=H) ?_ (by rw [aak];exact id (bO 0xf4240a000003e8a0011 hb)) ?_
  ·haveI en:∀l,eA (.ref t) ⟨l,H⟩= .ok ⟨bs.map V.bool,λH=>ax (.ref t) H=some (bs.map V.bool)⟩ ⟨l,H⟩:=λl=>by rw [qL,hit]
   exists a1,fe hS.ob (iR _ _ _),en
  ·rw [<- qy]
   refine io hit II _ λx hx=> ?_
   obtain ⟨b,_,rfl⟩:=aae.mp hx
   have h1:aY "one" (.bool b) ⟨gD [] l0,H⟩= .ok () ⟨upd (gD [] l0) "one" (.bool b),H⟩:=rfl
   cases b with
   | true=>exact fC (H2:=H) (H3:=H) h1 rfl rfl
   | false=>exact gj h1 rfl
 haveI hl:dw [.ref H.length] ⟨l0,H++[.list (List.replicate (bs.count true) (V.bool true))]⟩= .ok (.int (bs.count true)) ⟨l0,H++[.list (List.replicate (bs.count true) (V.bool true))]⟩:=by
  rw [cj (xs:=List.replicate (bs.count true) (V.bool true)) (ba _ _) (by rw [List.length_replicate];exact id (bP 0xf4240a1101010003e8a0012 hb hcl)),List.length_replicate]
 refine a9 (m:=rE) (q:=⟨l0,_⟩) rfl ?_
 rw [e0]
 exact bq (bq (bq hc rfl) hl) rfl
theorem EE:hZ [.inst "Shelf" i] H= .ok (.ref H.length) (H++[.list ((bX 0 bs).map V.int)]):=by
 obtain ⟨l0,e0,a1⟩:∃l0,aX ["self"] [.inst "Shelf" i]=l0/\l0 "self" = some (.inst "Shelf" i):=⟨_,rfl,rfl⟩
 have hit:ax (.ref t) H=some (bs.map V.bool):=bY hS.ls
 haveI hc:mq ⟨l0,H⟩= .ok (.ref H.length) ⟨l0,H++[.list ((bX 0 bs).map V.int)]⟩:=by
  refine ip (it:=⟨gk 0 (bs.map V.bool),λH=>ax (.ref t) H=some (bs.map V.bool)⟩) (H1:=H) ?_ (by rw [hV,aak];exact id (bO 0xf4240a000003e8a0011 hb)) ?_
  ·haveI en:∀l,nO [.ref t] ⟨l,H⟩= .ok ⟨gk 0 (bs.map V.bool),λH=>ax (.ref t) H=some (bs.map V.bool)⟩ ⟨l,H⟩:=λl=>by unfold nO;dsimp only;rw [hit]
   exists a1,fe hS.ob (iR _ _ _),en
  ·rw [<- oB]
   refine io hit IK _ λx hx=> ?_
   obtain ⟨j,b,rfl⟩:=tA _ _ _ hx
   have h1:ww "slot" "one" (.tup [.int j,.bool b]) ⟨gD [] l0,H⟩= .ok () ⟨upd (upd (gD [] l0) "slot" (.int j)) "one" (.bool b),H⟩:=rfl
   cases b with
   | true=>exact fC (H2:=H) (H3:=H) h1 rfl rfl
   | false=>exact gj h1 rfl
 refine a9 (m:=pE) (q:=⟨l0,_⟩) rfl ?_
 rw [e0]
 exact bq hc rfl
end
end
theorem Bq (i j:Int) (q:S) (h:i.natAbs<2 ^ 64):gB (.int i) (.int j) q= .ok (.int (i*j)) q:=by
 unfold gB
 dsimp only
 rw [if_pos (IntMulOk.of_left (intBits_le_iff.mpr h))];rfl
theorem vZ {g:Hp->Prop} {bd:V->Cm Unit} {tst:Cm Bool} {elt:Cm V} {lc:bk} (H0:Hp) (hg:∀H,H0<+:H->g H) (φ : V->Option V):∀(xs:List V) (H:Hp),H0<+:H ->
  (∀x∈xs,∀H,H0<+:H-> ∃H',bN bd tst elt lc x H= .ok (φ x) H'/\H<+:H')-> ∃H',fP g bd tst elt lc xs H= .ok (xs.filterMap φ) H'/\H<+:H'
 | [],H,_,_=>⟨H,rfl,aaj _⟩
 | x::xs,H,h0,h=>by
  obtain ⟨H1,h1,p1⟩:=h x (.head _) H h0
  obtain ⟨H2,h2,p2⟩:=vZ H0 hg φ xs H1 (h0.trans p1) λz hz=>h z (.tail _ hz)
  exact ⟨H2,by rw [yd h1 (hg _ (h0.trans p1)) h2,pj],p1.trans p2⟩
structure bD where
 pg:Int
 sh:Nat
 t:Nat
 sz:Int
 bs:List Bool
structure Rm where
 pl:Nat
 d:Nat
 c:Nat
 m:Nat
 p:Int
 len:Int
 xs:List Int
 ss:List bD
 cs:List Int
noncomputable def bD.ent (s:bD):Int×V:=(s.pg,.inst "Shelf" s.sh)
noncomputable def dz (ss:List bD) (g:Int):Option bD:=ss.find? λs=>s.pg==g
noncomputable def pO (pl d c:Nat):List (String×V):=[("plan",.inst "Plan" pl),("racks",.ref d),("cells",.ref c)]
theorem FO (pl d c:Nat) {x:String} (h:x ≠ "plan" /\ x ≠ "racks" /\ x ≠ "cells"):(pO pl d c).lookup x=none:=by
 haveI h1:(x == "plan")=false:=by simpa using h.1
 haveI h2:(x == "racks")=false:=by simpa using h.2.1
 haveI h3:(x == "cells")=false:=by simpa using h.2.2
 unfold pO
 rw [List.lookup_cons,h1];dsimp only;rw [List.lookup_cons,h2];dsimp only;rw [List.lookup_cons,h3];rfl
structure aF (H:Hp) (ri:Nat) (r:Rm):Prop where
 ob:H[ri]? = some (.flds (pO r.pl r.d r.c))
 plan:H[r.pl]? = some (.flds (hG r.p r.len r.m))
 sizes:H[r.m]? = some (.list (r.xs.map V.int))
 racks:H[r.d]? = some (.dict (r.ss.map bD.ent))
 shelf:∀s∈r.ss,jd H s.sh s.t s.pg s.sz s.bs
 cells:H[r.c]? = some (.list (r.cs.map V.int))
structure Rm.Ok (r:Rm):Prop where
 p:1<=r.p/\r.p<=40
 len:1<=r.len/\r.len<=60
 sz:je r.len r.xs
 ne:r.xs≠[]
 ndp:(r.ss.map (·.pg)).Nodup
 ndt:(r.ss.map (·.t)).Nodup
 pg:∀s∈r.ss,0<=s.pg/\s.pg<r.p
 in':∀s∈r.ss,s.sz∈r.xs
 slots:∀s∈r.ss,(s.bs.length:Int)=r.len.fdiv s.sz
 cs:(r.cs.length:Int)=r.p*r.len
 ct:r.c∉r.ss.map (·.t)
 mt:r.m∉r.ss.map (·.t)
 mc:r.m≠r.c
theorem jd.pre {H H':Hp} {i t:Nat} {p z:Int} {bs:List Bool} (h:jd H i t p z bs) (e:H<+:H'):jd H' i t p z bs:=⟨aE e h.ob,aE e h.ls⟩
theorem aF.pre {H H':Hp} {ri:Nat} {r:Rm} (h:aF H ri r) (e:H<+:H'):aF H' ri r :=
 ⟨aE e h.ob,aE e h.plan,aE e h.sizes,aE e h.racks,λs hs=>(h.shelf s hs).pre e,aE e h.cells⟩
theorem aF.isPlan {H:Hp} {ri:Nat} {r:Rm} (h:aF H ri r):zN H r.pl r.p r.len r.xs:=⟨⟨r.m,h.plan,h.sizes⟩⟩
theorem aJ:∀ {ss:List bD} {g:Int} {s:bD},dz ss g=some s->s∈ss/\s.pg=g:=λ{ss g s} h =>
 ⟨aaT h,by simpa using List.find?_some h⟩
theorem kt:∀ {ss:List bD},(ss.map (·.pg)).Nodup-> ∀ {s:bD},s∈ss->dz ss s.pg=some s
 | [],_,_,h=>by cases h
 | a::ss,hn,s,h=>by
  rw [aas,aaP] at hn
  unfold dz
  rcases aah.mp h with rfl | h
  ·rw [aaG (by simp)]
  ·haveI hne:¬((a.pg==s.pg)=true):=λe=>hn.1 (aae.mpr ⟨s,h,(by simpa using e:a.pg=s.pg).symm⟩)
   rw [aay (p:=λs':bD=>s'.pg==s.pg) hne]
   exact kt hn.2 h
theorem yu {ss:List bD} {g:Int}:dz ss g=none↔g∉ss.map (·.pg):=by
 unfold dz
 rw [List.find?_eq_none]
 constructor
 ·intro h hm
  obtain ⟨s,hs,e⟩:=aae.mp hm
  exact h s hs (by simpa using e)
 ·intro h s hs e
  exact h (aae.mpr ⟨s,hs,by simpa using e⟩)
theorem iz:∀(ss:List bD) (g:Int),(ss.map bD.ent).lookup g=(dz ss g).map λs=> .inst "Shelf" s.sh
 | [],_=>rfl
 | a::ss,g=>by
  rw [aas]
  unfold bD.ent dz
  rw [List.lookup_cons]
  by_cases e:g=a.pg
  ·subst e;rw [aaG (by simp)];simp
  ·haveI e1:(g==a.pg)=false:=by simpa using e
   haveI e2:¬((a.pg==g)=true):=by simpa using λx=>e x.symm
   rw [e1,aay (p:=λs':bD=>s'.pg==g) e2]
   exact iz ss g
theorem Dp (ss:List bD):(ss.map bD.ent).map (·.1)=ss.map (·.pg):=by rw [aaQ];rfl
theorem yT:∀(n:Nat) (l:List Nat),l.Nodup->(∀x∈l,x<n)->l.length<=n
 | 0,l,_,h=>by
  cases l with
  | nil=>simp
  | cons x r=>exact absurd (h x (.head _)) (by exact bO 0x9050)
 | n+1,l,hn,h=>by
  haveI h1:=yT n (l.filter (· ≠ n)) (hn.filter _) λx hx=>by
   obtain ⟨hx1,hx2⟩:=aaD.mp hx
   exact Nat.lt_of_le_of_ne (Nat.le_of_lt_succ (h x hx1)) (of_decide_eq_true hx2)
  haveI h2:l.length<=(l.filter (· ≠ n)).length+1:=by
   clear h1 h
   induction l with
   | nil=>simp
   | cons a r ih =>
    rw [aaP] at hn
    by_cases e:a=n
    ·subst e
     haveI:r.filter (· ≠ a)=r:=by
      apply List.filter_eq_self.mpr
      intro x hx
      haveI:x≠a:=λe=>hn.1 (e▸hx)
      simpa using this
     rw [aaV (by simp),this];simp
    ·rw [aaU (by simpa using e)]
     haveI:=ih hn.2
     rw [aau,aau];exact id (bP 0x19191cc190c0191c0011 this)
  exact id (lZ 0x191c20190c20110012 h1 h2)
theorem Rm.Ok.few {r:Rm} (h:r.Ok):r.ss.length<=40:=by
 haveI h1:=yT r.p.toNat ((r.ss.map (·.pg)).map Int.toNat) (by
  refine aaY.mpr (h.ndp.imp_of_mem λ{a b} ha hb hab e=>hab ?_)
  obtain ⟨s,hs,rfl⟩:=aae.mp ha
  obtain ⟨s',hs',rfl⟩:=aae.mp hb
  rw [<- aai (h.pg s hs).1,<- aai (h.pg s' hs').1,e]) λx hx=>by
  obtain ⟨g,hg,rfl⟩:=aae.mp hx
  obtain ⟨s,hs,rfl⟩:=aae.mp hg
  have:=h.pg s hs
  exact id (fi [_,_] [_,_] 0x1011f18100fa110913 this.2 (aai this.1) (aaH _))
 have:=h.p
 simp at h1
 exact id (kK 0x28a0001fa11001000028a0813 this.2 h1 (aai (cI 0x98019811 this.1)))
theorem Rm.Ok.szpos {r:Rm} (h:r.Ok) {s:bD} (hs:s∈r.ss):1<=s.sz/\s.sz<=r.len:=⟨h.sz.low _ (h.in' s hs),h.sz.top _ (h.in' s hs)⟩
theorem I1 {x:Int} (a:0<=x) (b:x<1000000):x.natAbs<2 ^ 64:=Int.ofNat_lt.mp (by rw [Int.natAbs_of_nonneg a];exact Int.lt_trans b ∅)
theorem DT {n:Nat}:((n:Int)=0)↔n=0:=Int.ofNat_inj
theorem I6 {z:Int} (h:0<=z/\z<=1000) : -1000000<z/\z<1000000:=⟨Int.lt_of_lt_of_le ∅ h.1,Int.lt_of_le_of_lt h.2 ∅⟩
theorem z0 {z:Int} (h:1<=z):(0:Int)<=0/\0<z:=⟨Int.le_refl _,Int.lt_of_lt_of_le ∅ h⟩
theorem tn {a b:Int} (ha:0<=a) (hb:0<=b) (h:a.toNat=b.toNat):a=b:=by rw [<- aai ha,<- aai hb,h]
theorem JD {α:Type} {l:List α} {i:Nat} {x:α} (h:l[i]? = some x):(l.length:Int)≠0:=λe=>by rw [List.length_eq_zero_iff.mp (Int.ofNat_inj.mp e)] at h;cases h
theorem Ds {a b:Nat}:((a:Int)>(b:Int))↔b<a:=Int.ofNat_lt
theorem wN {a g x:Int} (e:a=g) (h:¬x=g):¬((a==x)=true):=λq=>h ((eq_of_beq q).symm.trans e)
theorem tC {a b:Int} (u1:0<=a.fdiv b) (u4:a<(a.fdiv b+1)*b) (h:b<=a):1<=a.fdiv b:=by
 rcases Int.lt_or_le (a.fdiv b) 1 with q | q
 ·rw [show a.fdiv b=0 by exact aa4 (cI 0x908190911 q) (u1),Int.zero_add,Int.one_mul] at u4;exact absurd h (Int.not_le.mpr u4)
 ·exact q
theorem dH {a b:Int} (ha:0<=a) (hb:1<=b):0<=a.fdiv b/\a.fdiv b<=a/\a.fdiv b*b<=a/\a<(a.fdiv b+1)*b:=by
 rw [Int.fdiv_eq_ediv_of_nonneg a (by exact cI 0x98019811 hb)]
 have h1:=Int.emod_add_mul_ediv a b
 have h2:=Int.emod_nonneg a (by exact λx9=>cI 0x9096090a1019812 hb x9:b≠0)
 haveI h3:=Int.emod_lt_of_pos a (by exact cI 0x99019811 hb:0<b)
 have h4:0<=a/b:=Int.ediv_nonneg ha (by exact cI 0x98019811 hb)
 haveI h5:a/b*1<=a/b*b:=Int.mul_le_mul_of_nonneg_left hb h4
 rw [Int.mul_comm] at h1
 refine ⟨h4,aa9 (by rw [Int.mul_one] at h5;exact h5) (by exact EY 0x21800981210ca12 h1 h2),by exact EY 0x21800981210ca12 h1 h2,?_⟩
 rw [Int.add_mul];exact id (Hi 0x301d1c293091210cb12 h1 h3)
theorem Rm.Ok.bslen {r:Rm} (h:r.Ok) {s:bD} (hs:s∈r.ss):s.bs.length<=1000:=by
 haveI h1:=h.slots s hs
 haveI h2:=h.szpos hs
 have h3:=h.len
 haveI:=(dH (a:=r.len) (b:=s.sz) (by exact cI 0x98019811 h3.1) h2.1).2.1
 exact id (Ck 0x3e8a00108100003ca18100fa13 h1 h3.2 this)
section
variable {H:Hp} {ri:Nat} {r:Rm} (hR:aF H ri r) (hO:r.Ok)
include hR
theorem bf (l:bk):aA "racks" (.inst "Room" ri) ⟨l,H⟩= .ok (.ref r.d) ⟨l,H⟩:=j8 hR.ob rfl
theorem fK (l:bk):aA "plan" (.inst "Room" ri) ⟨l,H⟩= .ok (.inst "Plan" r.pl) ⟨l,H⟩:=j8 hR.ob rfl
theorem mM (l:bk):aA "cells" (.inst "Room" ri) ⟨l,H⟩= .ok (.ref r.c) ⟨l,H⟩:=j8 hR.ob rfl
theorem Au (l:bk):aA "length" (.inst "Plan" r.pl) ⟨l,H⟩= .ok (.int r.len) ⟨l,H⟩:=j8 hR.plan rfl
theorem Eh (l:bk):aA "pages" (.inst "Plan" r.pl) ⟨l,H⟩= .ok (.int r.p) ⟨l,H⟩:=j8 hR.plan rfl
theorem aS {f:String} (h:f ≠ "plan" /\ f ≠ "racks" /\ f ≠ "cells") (l:bk):db "Room" f (.inst "Room" ri) ⟨l,H⟩= .ok () ⟨l,H⟩:=by simp [Ee,hR.ob,FO _ _ _ h]
theorem cK {g:Int} {s:bD} (h:dz r.ss g=some s) (l:bk):aW (.ref r.d) (.int g) ⟨l,H⟩= .ok (.inst "Shelf" s.sh) ⟨l,H⟩:=by
 unfold aW;dsimp only;rw [hR.racks];dsimp only;rw [iz,h];rfl
theorem Eg (g:Int) (l:bk):rk (.int g) (.ref r.d) ⟨l,H⟩= .ok (dz r.ss g).isSome ⟨l,H⟩:=by
 unfold rk;dsimp only;rw [hR.racks];dsimp only;rw [iz];cases dz r.ss g<;>rfl
theorem pN {s:bD} (hs:s∈r.ss) (l:bk):aA "size" (.inst "Shelf" s.sh) ⟨l,H⟩= .ok (.int s.sz) ⟨l,H⟩/\aA "page" (.inst "Shelf" s.sh) ⟨l,H⟩= .ok (.int s.pg) ⟨l,H⟩:=by
 have:=(hR.shelf s hs).ob
 exact ⟨j8 this rfl,j8 this rfl⟩
include hO
theorem qM (l:bk):bR [.ref r.d] ⟨l,H⟩= .ok (.ref H.length) ⟨l,H++[.list ((cH (r.ss.map (·.pg))).map V.int)]⟩:=by
 haveI h:=hO.few
 haveI:(r.ss.map bD.ent).length<1000000:=by simp;exact Nat.lt_of_le_of_lt h ∅
 unfold bR;dsimp only;rw [hR.racks];dsimp only;rw [if_pos this,Dp]
noncomputable def iL (p:Int) (ss:List bD):List Int:=((List.range p.toNat).map Int.ofNat).filter λg=>(dz ss g).isNone
noncomputable def ofSz (ss:List bD) (z:Int):List Int:=(cH (ss.map (·.pg))).filter λg=>match dz ss g with | some s=>decide (s.sz=z) | none=>false
noncomputable def mw (ss:List bD):List Int:=(cH (ss.map (·.pg))).filter λg=>match dz ss g with | some s=>decide (s.bs.count true=0) | none=>false
omit hR hO in
theorem iq:∀(n:Nat) (a:Nat),bE a n=((List.range' a n).map Int.ofNat).map V.int
 | 0,a=>rfl
 | n+1,a=>by
  rw [zb,List.range'_succ,aas,aas,show ((a:Int)+1)=((a+1:Nat):Int) by push_cast;rfl,iq n (a+1)]
  rfl
omit hR hO in
theorem iB (f:Int->Bool) (φ : V->Option V) (h:∀g,φ (.int g)=if f g then some (.int g) else none):∀l:List Int,(l.map V.int).filterMap φ = (l.filter f).map V.int
 | []=>rfl
 | g::l=>by
  rw [aas]
  cases hf:f g with
  | true=>rw [List.filterMap_cons_some (by rw [h,hf];rfl),aaU hf,iB f φ h l];rfl
  | false=>rw [List.filterMap_cons_none (by rw [h,hf];rfl),aaV (by rw [hf];simp),iB f φ h l]
theorem AB:∃H',gn [.inst "Room" ri] H= .ok (.ref H.length) H'/\H'=H++[.list ((iL r.p r.ss).map V.int)]:=by
 obtain ⟨l0,e0,a1⟩:∃l0,aX ["self"] [.inst "Room" ri]=l0/\l0 "self" = some (.inst "Room" ri):=⟨_,rfl,rfl⟩
 refine ⟨_,?_,rfl⟩
 have hp:=hO.p
 haveI hr:∀q,dh [.int r.p] q= .ok ⟨bE 0 r.p.toNat,λ_=>True⟩ q:=λq=>iN _ _ ⟨by exact cI 0xf4240a1b9019811 hp.1,by exact cI 0xf4240a09000028a0811 hp.2⟩
 haveI hc:nL ⟨l0,H⟩= .ok (.ref H.length) ⟨l0,H++[.list ((iL r.p r.ss).map V.int)]⟩:=by
  refine ip (it:=⟨bE 0 r.p.toNat,λ_=>True⟩) (H1:=H) ?_ (by rw [gf];exact id (dE 0xf4240a0000fa1000028a0812 hp.2 (aai (cI 0x98019811 hp.1)))) ?_
  ·exists a1,fK hR,Eh hR,hr
  ·haveI e1:bE 0 r.p.toNat=((List.range r.p.toNat).map Int.ofNat).map V.int:=by rw [List.range_eq_range'];exact iq _ 0
   let φ : V->Option V:=λv=>match v with | .int g=>if (dz r.ss g).isNone then some (.int g) else none | _=>none
   haveI e2:(iL r.p r.ss).map V.int=(((List.range r.p.toNat).map Int.ofNat).map V.int).filterMap φ := (iB (λg=>(dz r.ss g).isNone) φ (λ_=>rfl) _).symm
   rw [e2]
   show fP _ _ _ _ _ (bE 0 r.p.toNat) H=_
   rw [e1]
   refine io trivial φ _ λx hx=> ?_
   obtain ⟨g,_,rfl⟩:=aae.mp hx
   have h1:aY "page" (.int g) ⟨gD ["self"] l0,H⟩= .ok () ⟨upd (gD ["self"] l0) "page" (.int g),H⟩:=rfl
   have hs:upd (gD ["self"] l0) "page" (.int g) "self" = some (.inst "Room" ri):=fZ ∅ ∅ a1
   have eφ : φ (.int g)=if (dz r.ss g).isNone then some (.int g) else none:=rfl
   rw [eφ]
   cases hf:dz r.ss g with
   | none =>
    haveI hi:=Eg hR g (upd (gD ["self"] l0) "page" (.int g))
    rw [hf] at hi
    refine fC (H2:=H) (H3:=H) h1 ?_ rfl
    exists hs,bf hR,hi
   | some s =>
    haveI hi:=Eg hR g (upd (gD ["self"] l0) "page" (.int g))
    rw [hf] at hi
    refine gj (H2:=H) h1 ?_
    exists hs,bf hR,hi
 refine a9 (m:=rA) (q:=⟨l0,_⟩) rfl ?_
 rw [e0]
 exists hc
end
theorem dW (f:Int->Bool):∀l:List Int,(l.filterMap λg=>if f g then some (V.int g) else none)=(l.filter f).map V.int
 | []=>rfl
 | g::l=>by
  cases hf:f g with
  | true=>rw [List.filterMap_cons_some (by rw [hf];rfl),aaU hf,dW f l];rfl
  | false=>rw [List.filterMap_cons_none (by rw [hf];rfl),aaV (by rw [hf];simp),dW f l]
theorem dQ {caps:List String} {x:String} {tst:Cm Bool} {elt:Cm V} {l:bk} {mi:Cm It} {H H1:Hp} {n:Nat} {ks:List Int}
  (hmi:mi ⟨l,H⟩= .ok ⟨ks.map V.int,λH=>ax (.ref n) H=some (ks.map V.int)⟩ ⟨l,H1⟩) (hn:H1[n]? = some (.list (ks.map V.int))) (hlen:ks.length<=1000000) (φ : Int->Option V)
  (hstep:∀g∈ks,∀H',H1<+:H'-> ∃H'',bN (aY x) tst elt (gD caps l) (.int g) H'= .ok (φ g) H''/\H'<+:H'') :
  ∃H',cP caps mi (aY x) tst elt ⟨l,H⟩= .ok (.ref H'.length) ⟨l,H'++[.list (ks.filterMap φ)]⟩/\H1<+:H':=by
 let ψ : V->Option V:=λv=>match v with | .int g => φ g | _=>none
 obtain ⟨H',h1,h2⟩:=vZ (g:=λH=>ax (.ref n) H=some (ks.map V.int)) (bd:=aY x) (tst:=tst) (elt:=elt) (lc:=gD caps l) H1 (λH' hp=>bY (aE hp hn)) ψ (ks.map V.int) H1 (aaj _) λv hv H' hp=>by
  obtain ⟨g,hg,rfl⟩:=aae.mp hv
  exact hstep g hg H' hp
 haveI e:(ks.map V.int).filterMap ψ = ks.filterMap φ := by rw [List.filterMap_map];rfl
 rw [e] at h1
 exact ⟨H',ip hmi (by simpa using hlen) h1,h2⟩
theorem dg {n:Nat} {ks:List Int} {l:bk} {H:Hp} (hn:H[n]? = some (.list (ks.map V.int))):eA (.ref n) ⟨l,H⟩= .ok ⟨ks.map V.int,λH=>ax (.ref n) H=some (ks.map V.int)⟩ ⟨l,H⟩:=by
 rw [qL,bY hn]
theorem eJ {tst:Cm Bool} {elt:Cm V} {x:String} {lc:bk} {v y:V} {H H2 H3:Hp} (h2:tst ⟨upd lc x v,H⟩= .ok true ⟨upd lc x v,H2⟩) (h3:elt ⟨upd lc x v,H2⟩= .ok y ⟨upd lc x v,H3⟩) :
  bN (aY x) tst elt lc v H= .ok (some y) H3:=fC (u:=()) rfl h2 h3
theorem pU {tst:Cm Bool} {elt:Cm V} {x:String} {lc:bk} {v:V} {H H2:Hp} (h2:tst ⟨upd lc x v,H⟩= .ok false ⟨upd lc x v,H2⟩):bN (aY x) tst elt lc v H= .ok none H2:=gj (u:=()) rfl h2
theorem qS {g:Int} {l:List Int}:g∈cH l↔g∈l:=(iS l).mem_iff
theorem kZ (l:List Int):(cH l).length=l.length:=(iS l).length_eq
theorem Bf {ss:List bD} (hn:(ss.map (·.pg)).Nodup) {g:Int} (h:g∈cH (ss.map (·.pg))):∃s,A3 (dz ss g=some s) (s∈ss) (s.pg=g):=by
 obtain ⟨s,hs,rfl⟩:=aae.mp (qS.mp h)
 exact ⟨s,kt hn hs,hs,rfl⟩
section
variable {H:Hp} {ri:Nat} {r:Rm} (hR:aF H ri r) (hO:r.Ok)
include hR hO
theorem uU (z:Int):∃n H',A4 (cZ [.inst "Room" ri,.int z] H= .ok (.ref n) H') (H<+:H') (H'[n]? = some (.list ((ofSz r.ss z).map V.int))) (H.length<=n):=by
 obtain ⟨l0,e0,a1,a2⟩:∃l0,aX ["self", "size"] [.inst "Room" ri,.int z]=l0/\l0 "self" = some (.inst "Room" ri)/\l0 "size" = some (.int z):=⟨_,rfl,rfl,rfl⟩
 haveI hf:=hO.few
 obtain ⟨H',h1,h2⟩:=dQ (caps:=["size", "self"]) (x := "page") (l:=l0) (H:=H) (H1:=H++[.list ((cH (r.ss.map (·.pg))).map V.int)]) (n:=H.length) (ks:=cH (r.ss.map (·.pg)))
  (mi:=(((((af "self").b λv2=>aA "racks" v2).b λv3=>(Cm.p ([]:List V)).b λvs4=>Cm.p (v3::vs4)).b λvs1=>bR vs1).b λv5=>eA v5))
  (tst:=(((((af "self").b λv6=>aA "racks" v6).b λv7=>(af "page").b λv8=>aW v7 v8).b λv9=>aA "size" v9).b λv10=>(af "size").b λv11=>(ew .Eq v10 v11).b λx12=>Cm.p x12))
  (elt:=af "page")
  (by exists a1,bf hR,qM hR hO;exact dg (by simp)) (by simp) (by rw [kZ];simp;exact aam hf ∅)
  (λg=>if (match dz r.ss g with | some s=>decide (s.sz=z) | none=>false) then some (V.int g) else none) λg hg Hx hp=>by
   obtain ⟨s,hs,hm,_⟩:=Bf hO.ndp hg
   have hRx:=hR.pre ((aaz _ _).trans hp)
   haveI b1:upd (gD ["size", "self"] l0) "page" (.int g) "self" = some (.inst "Room" ri):=fZ ∅ ∅ a1
   haveI b2:upd (gD ["size", "self"] l0) "page" (.int g) "size" = some (.int z):=fZ ∅ ∅ a2
   refine ⟨Hx,?_,aaj _⟩
   rw [hs]
   show bN _ _ _ _ _ _= .ok (if decide (s.sz=z)=true then some (V.int g) else none) Hx
   have ht:∀b,decide (s.sz=z)=b->((((((af "self").b λv6=>aA "racks" v6).b λv7=>(af "page").b λv8=>aW v7 v8).b λv9=>aA "size" v9).b λv10=>(af "size").b λv11=>(ew .Eq v10 v11).b λx12=>Cm.p x12)) ⟨upd (gD ["size", "self"] l0) "page" (.int g),Hx⟩= .ok b ⟨upd (gD ["size", "self"] l0) "page" (.int g),Hx⟩:=λb hb=>by
    exists b1,b2,bf hRx,cK hRx hs,(pN hRx hm _).1,hb
   cases hb:decide (s.sz=z) with
   | true=>exact eJ (ht true hb) rfl
   | false=>exact pU (ht false hb)
 refine ⟨H'.length,H'++[.list ((ofSz r.ss z).map V.int)],?_,((aaz _ _).trans h2).trans (aaz _ _),by simp,((aaz _ _).trans h2).length_le⟩
 rw [dW] at h1
 refine a9 (m:=iI) (q:=⟨l0,_⟩) rfl ?_
 rw [e0]
 simp only [iI,jZ,pL,jN,h1,Gr]
 rfl
theorem wC (z:Int):∃n H',A3 (cZ [.inst "Room" ri,.int z] H= .ok (.ref n) H') (H<+:H') (H'[n]? = some (.list ((ofSz r.ss z).map V.int))) :=
 let ⟨n,H',h1,h2,h3,_⟩:=uU hR hO z;⟨n,H',h1,h2,h3⟩
theorem sX:∃n H',A3 (bV [.inst "Room" ri] H= .ok (.ref n) H') (H<+:H') (H'[n]? = some (.list ((mw r.ss).map V.int))):=by
 obtain ⟨l0,e0,a1⟩:∃l0,aX ["self"] [.inst "Room" ri]=l0/\l0 "self" = some (.inst "Room" ri):=⟨_,rfl,rfl⟩
 haveI hf:=hO.few
 obtain ⟨H',h1,h2⟩:=dQ (caps:=["self"]) (x := "page") (l:=l0) (H:=H) (H1:=H++[.list ((cH (r.ss.map (·.pg))).map V.int)]) (n:=H.length) (ks:=cH (r.ss.map (·.pg)))
  (mi:=(((((af "self").b λv2=>aA "racks" v2).b λv3=>(Cm.p ([]:List V)).b λvs4=>Cm.p (v3::vs4)).b λvs1=>bR vs1).b λv5=>eA v5))
  (tst:=(((((af "self").b λv7=>aA "racks" v7).b λv8=>(af "page").b λv9=>aW v8 v9).b λv10=>(db "Shelf" "out" v10).b λ_=>(Cm.p ([]:List V)).b λvs6=>bA (bQ) (v10::vs6)).b λv11=>(Cm.p (V.int 0)).b λv12=>(ew .Eq v11 v12).b λx13=>Cm.p x13))
  (elt:=af "page")
  (by exists a1,bf hR,qM hR hO;exact dg (by simp)) (by simp) (by rw [kZ];simp;exact aam hf ∅)
  (λg=>if (match dz r.ss g with | some s=>decide (s.bs.count true=0) | none=>false) then some (V.int g) else none) λg hg Hx hp=>by
   obtain ⟨s,hs,hm,_⟩:=Bf hO.ndp hg
   have hRx:=hR.pre ((aaz _ _).trans hp)
   have hSx:=hRx.shelf s hm
   haveI ho:=GE hSx (hO.bslen hm)
   haveI b1:upd (gD ["self"] l0) "page" (.int g) "self" = some (.inst "Room" ri):=fZ ∅ ∅ a1
   refine ⟨Hx++[.list (List.replicate (s.bs.count true) (V.bool true))],?_,aaz _ _⟩
   rw [hs]
   show bN _ _ _ _ _ _= .ok (if decide (s.bs.count true=0)=true then some (V.int g) else none) _
   have ht:∀b,decide (s.bs.count true=0)=b->((((((af "self").b λv7=>aA "racks" v7).b λv8=>(af "page").b λv9=>aW v8 v9).b λv10=>(db "Shelf" "out" v10).b λ_=>(Cm.p ([]:List V)).b λvs6=>bA (bQ) (v10::vs6)).b λv11=>(Cm.p (V.int 0)).b λv12=>(ew .Eq v11 v12).b λx13=>Cm.p x13)) ⟨upd (gD ["self"] l0) "page" (.int g),Hx⟩= .ok b ⟨upd (gD ["self"] l0) "page" (.int g),Hx++[.list (List.replicate (s.bs.count true) (V.bool true))]⟩:=λb hb=>by
    haveI e:decide (((s.bs.count true:Nat):Int)=0)=b:=by rw [<- hb];exact decide_eq_decide.mpr DT
    exists b1,bf hRx,cK hRx hs,dy hSx.ob (HE _ _ _),ho,e
   cases hb:decide (s.bs.count true=0) with
   | true=>exact eJ (ht true hb) rfl
   | false=>exact pU (ht false hb)
 refine ⟨H'.length,H'++[.list ((mw r.ss).map V.int)],?_,((aaz _ _).trans h2).trans (aaz _ _),by simp⟩
 rw [dW] at h1
 refine a9 (m:=iH) (q:=⟨l0,_⟩) rfl ?_
 rw [e0]
 exact bq h1 rfl
omit hO in
theorem sW {s:bD} (hS:jd H s.sh s.t s.pg s.sz s.bs) (k:Int) (hp:0<=s.pg/\s.pg<1000) (hk:0<=k/\k<1000):dR [.inst "Room" ri,.inst "Shelf" s.sh,.int k] H= .ok (.int (s.pg*r.len+k*s.sz)) H:=by
 haveI h1:∀l,aA "page" (.inst "Shelf" s.sh) ⟨l,H⟩= .ok (.int s.pg) ⟨l,H⟩:=λl=>fe hS.ob (FQ _ _ _)
 haveI h2:∀l,aA "size" (.inst "Shelf" s.sh) ⟨l,H⟩= .ok (.int s.sz) ⟨l,H⟩:=λl=>fe hS.ob (FR _ _ _)
 haveI m1:∀q,gB (.int s.pg) (.int r.len) q= .ok (.int (s.pg*r.len)) q:=λq=>Bq _ _ q (I1 (by exact hp.1) (by exact cI 0xf4240a090003e8a0911 hp.2))
 haveI m2:∀q,gB (.int k) (.int s.sz) q= .ok (.int (k*s.sz)) q:=λq=>Bq _ _ q (I1 (by exact hk.1) (by exact cI 0xf4240a090003e8a0911 hk.2))
 obtain ⟨l0,e0,a1,a2,a3⟩:∃l0,aX ["self", "shelf", "slot"] [.inst "Room" ri,.inst "Shelf" s.sh,.int k]=l0/\l0 "self" = some (.inst "Room" ri)/\l0 "shelf" = some (.inst "Shelf" s.sh)/\l0 "slot" = some (.int k):=⟨_,rfl,rfl,rfl,rfl⟩
 refine a9 (m:=pA) (q:=⟨l0,H⟩) rfl ?_
 rw [e0]
 exists a1,a2,a3,h1,h2,fK hR,Au hR,m1,m2
end
structure cM (F:List Nat) (H H':Hp):Prop where
 len:H.length<=H'.length
 same:∀i,i<H.length->i∉F->H'[i]? = H[i]?
theorem cM.refl (F:List Nat) (H:Hp):cM F H H:=⟨aaL _,λ_ _ _=>rfl⟩
theorem cM.pre {F:List Nat} {H H':Hp} (h:H<+:H'):cM F H H':=⟨h.length_le,λi hi _=>by
 obtain ⟨T,rfl⟩:=h
 rw [aaw hi]⟩
theorem cM.trans {F:List Nat} {H H' H'':Hp} (a:cM F H H') (b:cM F H' H''):cM F H H'' :=
 ⟨aam a.len b.len,λi hi hn=>(b.same i (aaX hi a.len) hn).trans (a.same i hi hn)⟩
theorem cM.mono {F F':List Nat} {H H':Hp} (a:cM F H H') (h:∀i∈F,i<H.length->i∈F'):cM F' H H':=⟨a.len,λi hi hn=>a.same i hi λhm=>hn (h i hm hi)⟩
theorem cM.set {F:List Nat} {H:Hp} {i:Nat} {o:O} (h:i∈F):cM F H (H.set i o):=⟨by simp,λj hj hn=>aaC (λe:i=j=>hn (e▸h))⟩
theorem cM.get {F:List Nat} {H H':Hp} (a:cM F H H') {i:Nat} {o:O} (h:H[i]? = some o) (hn:i∉F):H'[i]? = some o:=by
 rw [a.same i (aab.mp h).1 hn];exact h
noncomputable def Rm.dep (ri:Nat) (r:Rm):List Nat:=ri::r.pl::r.m::r.d::r.c::(r.ss.map (·.sh)++r.ss.map (·.t))
theorem aF.chg {F:List Nat} {H H':Hp} {ri:Nat} {r:Rm} (h:aF H ri r) (a:cM F H H') (hd:∀i∈r.dep ri,i∉F):aF H' ri r where
 ob:=a.get h.ob (hd _ (by simp [Rm.dep]))
 plan:=a.get h.plan (hd _ (by simp [Rm.dep]))
 sizes:=a.get h.sizes (hd _ (by simp [Rm.dep]))
 racks:=a.get h.racks (hd _ (by simp [Rm.dep]))
 shelf:=λs hs=>⟨a.get (h.shelf s hs).ob (hd _ (by simp [Rm.dep];exact .inr (.inr (.inr (.inr (.inr (.inl ⟨s,hs,rfl⟩))))))),a.get (h.shelf s hs).ls (hd _ (by simp [Rm.dep];exact .inr (.inr (.inr (.inr (.inr (.inr ⟨s,hs,rfl⟩)))))))⟩
 cells:=a.get h.cells (hd _ (by simp [Rm.dep]))
noncomputable def setBs (ss:List bD) (g:Int) (bs:List Bool):List bD:=ss.map λs=>if s.pg=g then { s with bs:=bs } else s
theorem Cu (ss:List bD) (g:Int) (bs:List Bool):(setBs ss g bs).map bD.ent=ss.map bD.ent:=by
 unfold setBs
 rw [aaQ]
 refine abf λs _=> ?_
 show bD.ent (if s.pg=g then { s with bs:=bs } else s)=_
 split<;>rfl
theorem Ej (ss:List bD) (g:Int) (bs:List Bool):(setBs ss g bs).map (·.pg)=ss.map (·.pg):=by
 unfold setBs;rw [aaQ];refine abf λs _=> ?_
 show bD.pg (if s.pg=g then { s with bs:=bs } else s)=_
 split<;>rfl
theorem nu (ss:List bD) (g:Int) (bs:List Bool):(setBs ss g bs).map (·.t)=ss.map (·.t):=by
 unfold setBs;rw [aaQ];refine abf λs _=> ?_
 show bD.t (if s.pg=g then { s with bs:=bs } else s)=_
 split<;>rfl
theorem nt {ss:List bD} {g:Int} {bs:List Bool} {s:bD} (h:s∈setBs ss g bs):∃s0∈ss,(s0.pg=g/\s={ s0 with bs:=bs })\/(s0.pg≠g/\s=s0):=by
 obtain ⟨s0,h0,rfl⟩:=aae.mp h
 refine ⟨s0,h0,?_⟩
 by_cases e:s0.pg=g
 ·exact .inl ⟨e,by rw [if_pos e]⟩
 ·exact .inr ⟨e,by rw [if_neg e]⟩
theorem pH {α:Type} {f:α->Nat}:∀ {l:List α},(l.map f).Nodup-> ∀ {a b:α},a∈l->b∈l->f a=f b->a=b
 | [],_,_,_,h,_,_=>by cases h
 | x::l,hn,a,b,ha,hb,e=>by
  rw [aas,aaP] at hn
  rcases aah.mp ha with h1 | h1<;>rcases aah.mp hb with h2 | h2
  ·rw [h1,h2]
  ·exact absurd (aae.mpr ⟨b,h2,by rw [<- e,h1]⟩) hn.1
  ·exact absurd (aae.mpr ⟨a,h1,by rw [e,h2]⟩) hn.1
  ·exact pH hn.2 h1 h2 e
section
variable {H:Hp} {ri:Nat} {r:Rm} (hR:aF H ri r) (hO:r.Ok)
include hR hO
theorem aF.setBs {s:bD} (hs:s∈r.ss) (bs:List Bool):aF (H.set s.t (.list (bs.map V.bool))) ri { r with ss:=Mine.Lake.setBs r.ss s.pg bs }:=by
 have hls:=(hR.shelf s hs).ls
 have ne:∀ {i:Nat} {o:O},H[i]? = some o->(∀xs,o≠ .list xs)->s.t≠i:=λ{i o} h hn e=>by rw [<- e,hls] at h;cases h;exact hn _ rfl
 have get:∀ {i:Nat} {o:O},H[i]? = some o->s.t≠i->(H.set s.t (.list (bs.map V.bool)))[i]? = some o:=λh hn=>by rw [aaC hn];exact h
 have ht:s.t∈r.ss.map (·.t):=aae.mpr ⟨s,hs,rfl⟩
 refine ⟨get hR.ob (ne hR.ob (by simp)),get hR.plan (ne hR.plan (by simp)),get hR.sizes λe=>hO.mt (e▸ht),?_,λs' hs'=> ?_,get hR.cells λe=>hO.ct (e▸ht)⟩
 ·show (H.set s.t _)[r.d]? = some (.dict ((Mine.Lake.setBs r.ss s.pg bs).map bD.ent))
  rw [Cu];exact get hR.racks (ne hR.racks (by simp))
 ·obtain ⟨s0,h0,⟨e,rfl⟩ | ⟨e,rfl⟩⟩:=nt hs'
  ·haveI:s0=s:=Option.some.inj ((kt hO.ndp h0).symm.trans (by rw [e];exact kt hO.ndp hs))
   subst this
   exact ⟨get (hR.shelf _ hs).ob (ne (hR.shelf _ hs).ob (by simp)),by
    show (H.set s0.t _)[s0.t]? = _
    rw [aaB (aab.mp hls).1]⟩
  ·haveI hne:s.t≠s'.t:=λq=>e (by rw [pH hO.ndt hs h0 q])
   exact ⟨get (hR.shelf _ h0).ob (ne (hR.shelf _ h0).ob (by simp)),get (hR.shelf _ h0).ls hne⟩
theorem Rm.Ok.setBs {s:bD} (hs:s∈r.ss) {bs:List Bool} (hl:bs.length=s.bs.length):Rm.Ok { r with ss:=Mine.Lake.setBs r.ss s.pg bs } where
 p:=hO.p
 len:=hO.len
 sz:=hO.sz
 ne:=hO.ne
 ndp:=by show ((Mine.Lake.setBs r.ss s.pg bs).map (·.pg)).Nodup;rw [Ej];exact hO.ndp
 ndt:=by show ((Mine.Lake.setBs r.ss s.pg bs).map (·.t)).Nodup;rw [nu];exact hO.ndt
 pg:=λs' hs'=>by
  obtain ⟨s0,h0,⟨e,rfl⟩ | ⟨e,rfl⟩⟩:=nt hs'
  ·exact hO.pg s0 h0
  ·exact hO.pg _ h0
 in':=λs' hs'=>by
  obtain ⟨s0,h0,⟨e,rfl⟩ | ⟨e,rfl⟩⟩:=nt hs'
  ·exact hO.in' s0 h0
  ·exact hO.in' _ h0
 slots:=λs' hs'=>by
  obtain ⟨s0,h0,⟨e,rfl⟩ | ⟨e,rfl⟩⟩:=nt hs'
  ·haveI:s0=s:=Option.some.inj ((kt hO.ndp h0).symm.trans (by rw [e];exact kt hO.ndp hs))
   subst this
   show (bs.length:Int)=_
   rw [hl];exact hO.slots _ h0
  ·exact hO.slots _ h0
 cs:=hO.cs
 ct:=by show r.c∉(Mine.Lake.setBs r.ss s.pg bs).map (·.t);rw [nu];exact hO.ct
 mt:=by show r.m∉(Mine.Lake.setBs r.ss s.pg bs).map (·.t);rw [nu];exact hO.mt
 mc:=hO.mc
theorem aF.setCs (cs:List Int):aF (H.set r.c (.list (cs.map V.int))) ri { r with cs:=cs }:=by
 have hls:=hR.cells
 have ne:∀ {i:Nat} {o:O},H[i]? = some o->(∀xs,o≠ .list xs)->r.c≠i:=λ{i o} h hn e=>by rw [<- e,hls] at h;cases h;exact hn _ rfl
 have get:∀ {i:Nat} {o:O},H[i]? = some o->r.c≠i->(H.set r.c (.list (cs.map V.int)))[i]? = some o:=λh hn=>by rw [aaC hn];exact h
 exact ⟨get hR.ob (ne hR.ob (by simp)),get hR.plan (ne hR.plan (by simp)),get hR.sizes hO.mc.symm,get hR.racks (ne hR.racks (by simp)),
  λs hs=>⟨get (hR.shelf s hs).ob (ne (hR.shelf s hs).ob (by simp)),get (hR.shelf s hs).ls λe=>hO.ct (e▸aae.mpr ⟨s,hs,rfl⟩)⟩,by
   show (H.set r.c _)[r.c]? = _
   rw [aaB (aab.mp hls).1]⟩
theorem Rm.Ok.setCs {cs:List Int} (hl:cs.length=r.cs.length):Rm.Ok { r with cs:=cs } :=
 ⟨hO.p,hO.len,hO.sz,hO.ne,hO.ndp,hO.ndt,hO.pg,hO.in',hO.slots,by show (cs.length:Int)=_;rw [hl];exact hO.cs,hO.ct,hO.mt,hO.mc⟩
noncomputable def gY (ss:List bD) (g:Int):List bD:=ss.filter λs=>s.pg≠g
omit hR hO in
theorem qq:∀(ss:List bD) (g:Int),(gY ss g).map bD.ent=r9 g (ss.map bD.ent)
 | [],_=>rfl
 | s::ss,g=>by
  unfold gY r9
  rw [aas]
  by_cases e:s.pg=g
  ·rw [aaV (by simp [e]),aaV (by simp [bD.ent,e])];exact qq ss g
  ·rw [aaU (by simp [e]),aaU (by simp [bD.ent,e]),aas];congr 1;exact qq ss g
theorem aF.del (g:Int):aF (H.set r.d (.dict (r9 g (r.ss.map bD.ent)))) ri { r with ss:=gY r.ss g }:=by
 have hls:=hR.racks
 haveI ne:∀ {i:Nat} {o:O},H[i]? = some o->(∀xs,o≠ .dict xs)->r.d≠i:=λ{i o} h hn e=>by rw [<- e,hls] at h;cases h;exact hn _ rfl
 have get:∀ {i:Nat} {o:O},H[i]? = some o->(∀xs,o≠ .dict xs)->(H.set r.d (.dict (r9 g (r.ss.map bD.ent))))[i]? = some o:=λh hn=>by rw [aaC (ne h hn)];exact h
 refine ⟨get hR.ob (by simp),get hR.plan (by simp),get hR.sizes (by simp),?_,λs hs=> ?_,get hR.cells (by simp)⟩
 ·show (H.set r.d _)[r.d]? = some (.dict ((gY r.ss g).map bD.ent))
  rw [aaB (aab.mp hls).1,qq]
 ·have hm:=(aaD.mp hs).1
  exact ⟨get (hR.shelf s hm).ob (by simp),get (hR.shelf s hm).ls (by simp)⟩
theorem Rm.Ok.del (g:Int):Rm.Ok { r with ss:=gY r.ss g }:=by
 have sub:(gY r.ss g).Sublist r.ss:=List.filter_sublist
 have mem:∀s∈gY r.ss g,s∈r.ss:=λs hs=>sub.mem hs
 exact ⟨hO.p,hO.len,hO.sz,hO.ne,hO.ndp.sublist (sub.map _),hO.ndt.sublist (sub.map _),λs hs=>hO.pg s (mem s hs),λs hs=>hO.in' s (mem s hs),λs hs=>hO.slots s (mem s hs),hO.cs,
  λh=>hO.ct ((sub.map _).mem h),λh=>hO.mt ((sub.map _).mem h),hO.mc⟩
noncomputable def kL (ss:List bD) (s:bD):List bD:=if (dz ss s.pg).isSome then ss.map (λa=>if a.pg=s.pg then s else a) else ss++[s]
omit hR hO in
theorem Ec (ss:List bD) (s:bD):(kL ss s).map bD.ent=tz s.pg (.inst "Shelf" s.sh) (ss.map bD.ent):=by
 unfold kL tz
 rw [iz,Option.isSome_map]
 split
 ·rw [aaQ,aaQ]
  refine abf λa _=> ?_
  show bD.ent (if a.pg=s.pg then s else a)=if (bD.ent a).1=s.pg then ((bD.ent a).1,.inst "Shelf" s.sh) else bD.ent a
  by_cases e:a.pg=s.pg
  ·rw [if_pos e,if_pos (show (bD.ent a).1=s.pg from e)];simp [bD.ent,e]
  ·rw [if_neg e,if_neg (show ¬(bD.ent a).1=s.pg from e)]
 ·rw [aa7];rfl
omit hR hO in
theorem gC {ss:List bD} {s x:bD} (h:x∈kL ss s):x=s\/(x∈ss/\x.pg≠s.pg):=by
 unfold kL at h
 split at h
 ·obtain ⟨a,ha,rfl⟩:=aae.mp h
  by_cases e:a.pg=s.pg
  ·exact .inl (by rw [if_pos e])
  ·rw [if_neg e];exact .inr ⟨ha,e⟩
 ·rename_i hn
  rcases aan.mp h with h | h
  ·refine .inr ⟨h,λe=>hn ?_⟩
   cases hf:dz ss s.pg with
   | some _=>rfl
   | none=>exact absurd (aae.mpr ⟨x,h,e⟩) (yu.mp hf)
  ·exact .inl (by simpa using h)
omit hR hO in
theorem FN {ss:List bD} {s:bD} (h1:(ss.map (·.pg)).Nodup) (h2:(ss.map (·.t)).Nodup) (h3:s.t∉ss.map (·.t)):((kL ss s).map (·.pg)).Nodup/\((kL ss s).map (·.t)).Nodup:=by
 have hp:ss.Pairwise λa b=>a.pg≠b.pg/\a.t≠b.t:=(aaY.mp h1).and (aaY.mp h2)
 have key:(kL ss s).Pairwise λa b=>a.pg≠b.pg/\a.t≠b.t:=by
  unfold kL
  split
  ·refine aaY.mpr (hp.imp_of_mem λ{a b} ha hb hab=> ?_)
   by_cases e1:a.pg=s.pg<;>by_cases e2:b.pg=s.pg
   ·exact absurd (e1.trans e2.symm) hab.1
   ·rw [if_pos e1,if_neg e2];exact ⟨λe=>e2 e.symm,λe=>h3 (aae.mpr ⟨b,hb,e.symm⟩)⟩
   ·rw [if_neg e1,if_pos e2];exact ⟨e1,λe=>h3 (aae.mpr ⟨a,ha,e⟩)⟩
   ·rw [if_neg e1,if_neg e2];exact hab
  ·rename_i hn
   refine aap.mpr ⟨hp,by simp,λa ha b hb=> ?_⟩
   simp at hb
   subst hb
   refine ⟨λe=>hn ?_,λe=>h3 (aae.mpr ⟨a,ha,e⟩)⟩
   cases hf:dz ss b.pg with
   | some _=>rfl
   | none=>exact absurd (aae.mpr ⟨a,ha,e⟩) (yu.mp hf)
 exact ⟨aaY.mpr (key.imp λh=>h.1),aaY.mpr (key.imp λh=>h.2)⟩
theorem aF.put {g z:Int} {k:Nat} {s:bD} (hs:s=⟨g,H.length,H.length+2,z,List.replicate k false⟩) :
  aF ((H++[O.flds (gS g z (H.length+2)),O.list [V.bool false],O.list ((List.replicate k false).map V.bool)]).set r.d (.dict (tz g (.inst "Shelf" H.length) (r.ss.map bD.ent)))) ri { r with ss:=kL r.ss s }:=by
 have hdl:=(aab.mp hR.racks).1
 haveI ne:∀ {i:Nat} {o:O},H[i]? = some o->(∀xs,o≠ .dict xs)->r.d≠i:=λ{i o} h hn e=>by rw [<- e,hR.racks] at h;cases h;exact hn _ rfl
 have get:∀ {i:Nat} {o:O},H[i]? = some o->(∀xs,o≠ .dict xs)->((H++[O.flds (gS g z (H.length+2)),O.list [V.bool false],O.list ((List.replicate k false).map V.bool)]).set r.d (.dict (tz g (.inst "Shelf" H.length) (r.ss.map bD.ent))))[i]? = some o:=λh hn=>by
  rw [aaC (ne h hn)];exact aE ⟨_,rfl⟩ h
 refine ⟨get hR.ob (by simp),get hR.plan (by simp),get hR.sizes (by simp),?_,λs' hs'=> ?_,get hR.cells (by simp)⟩
 ·show (List.set _ r.d _)[r.d]? = some (O.dict ((kL r.ss s).map bD.ent))
  rw [aaB (by simp;exact id (bP 0x391c0110111 hdl)),Ec,hs]
 ·rcases gC hs' with rfl | ⟨hm,_⟩
  ·subst hs
   refine ⟨?_,?_⟩
   ·show (List.set _ r.d _)[H.length]? = _
    rw [aaC (by exact λx9=>bP 0x9096103110112 hdl x9)];simp
   ·show (List.set _ r.d _)[H.length+2]? = _
    rw [aaC (by exact λx9=>bP 0x9096291c03110112 hdl x9)];simp
  ·exact ⟨get (hR.shelf s' hm).ob (by simp),get (hR.shelf s' hm).ls (by simp)⟩
theorem Rm.Ok.put {s:bD} (h1:0<=s.pg/\s.pg<r.p) (h2:s.sz∈r.xs) (h3:(s.bs.length:Int)=r.len.fdiv s.sz) (h4:H.length<=s.t):Rm.Ok { r with ss:=kL r.ss s }:=by
 haveI hlt:∀s'∈r.ss,s'.t<H.length:=λs' hs'=>(aab.mp (hR.shelf s' hs').ls).1
 have h5:s.t∉r.ss.map (·.t):=λhm=>by
  obtain ⟨s',hs',e⟩:=aae.mp hm
  haveI:=hlt s' hs'
  exact id (lZ 0x90960211123110013 h4 e this)
 obtain ⟨p1,p2⟩:=FN hO.ndp hO.ndt h5
 haveI hc:=(aab.mp hR.cells).1
 haveI hm:=(aab.mp hR.sizes).1
 refine ⟨hO.p,hO.len,hO.sz,hO.ne,p1,p2,λx hx=> ?_,λx hx=> ?_,λx hx=> ?_,hO.cs,λhx=> ?_,λhx=> ?_,hO.mc⟩
 ·rcases gC hx with rfl | ⟨hx,_⟩
  ·exact h1
  ·exact hO.pg x hx
 ·rcases gC hx with rfl | ⟨hx,_⟩
  ·exact h2
  ·exact hO.in' x hx
 ·rcases gC hx with rfl | ⟨hx,_⟩
  ·exact h3
  ·exact hO.slots x hx
 ·obtain ⟨x,hx,e⟩:=aae.mp hx
  rcases gC hx with rfl | ⟨hx,_⟩
  ·dsimp only at e;exact id (lZ 0x90960221210110113 hc h4 e)
  ·exact hO.ct (aae.mpr ⟨x,hx,e⟩)
 ·obtain ⟨x,hx,e⟩:=aae.mp hx
  rcases gC hx with rfl | ⟨hx,_⟩
  ·dsimp only at e;exact id (lZ 0x90960221210110113 hm h4 e)
  ·exact hO.mt (aae.mpr ⟨x,hx,e⟩)
end
theorem nP:∀(l:List bD) (s:bD),(dz l s.pg).isSome=true->dz (l.map λa=>if a.pg=s.pg then s else a) s.pg=some s
 | [],s,h=>by simp [dz] at h
 | a::l,s,h=>by
  unfold dz
  rw [aas]
  by_cases e:a.pg=s.pg
  ·rw [if_pos e,aaG (by simp)]
  ·rw [if_neg e,aay (p:=λs':bD=>s'.pg==s.pg) (by simpa using e)]
   refine nP l s ?_
   unfold dz at h
   rw [aay (p:=λs':bD=>s'.pg==s.pg) (by simpa using e)] at h
   exact h
theorem mB (ss:List bD) (s:bD):dz (kL ss s) s.pg=some s:=by
 unfold kL
 split
 ·rename_i h;exact nP ss s h
 ·rename_i h
  haveI hn:dz ss s.pg=none:=by cases hf:dz ss s.pg with | none=>rfl | some _=>rw [hf] at h;simp at h
  unfold dz at hn ⊢
  rw [List.find?_append,hn]
  simp
theorem D7 {p:Int} {ss:List bD} {g:Int} (h:g∈iL p ss):(0<=g/\g<p)/\dz ss g=none:=by
 unfold iL at h
 obtain ⟨h1,h2⟩:=aaD.mp h
 obtain ⟨k,hk,rfl⟩:=aae.mp h1
 haveI:=List.mem_range.mp hk
 refine ⟨⟨by simp,Int.lt_toNat.mp this⟩,?_⟩
 simpa using h2
theorem Do {ss:List bD} {g:Int} (h:g∈mw ss):∃s,dz ss g=some s/\s.bs.count true=0:=by
 unfold mw at h
 obtain ⟨h1,h2⟩:=aaD.mp h
 split at h2
 ·rename_i s hs;exact ⟨s,hs,by simpa using h2⟩
 ·cases h2
noncomputable def sR (p:Int) (ss:List bD):Option Int:=match iL p ss with
 | g::_=>some g
 | []=>(mw ss).head?
section
variable {H:Hp} {ri:Nat} {r:Rm} (hR:aF H ri r) (hO:r.Ok)
include hR hO
theorem Ar {z:Int} (hz:z∈r.xs):fU [.inst "Plan" r.pl,.int z] H= .ok (.int (r.len.fdiv z)) H:=by
 haveI h1:=hO.sz.low z hz
 rw [IR H r.pl r.p r.len r.xs z hR.isPlan (λ_=>by exact λx9=>cI 0x9096090a1019812 h1 x9),if_pos hz]
theorem qI {z:Int} (hz:z∈r.xs):1<=r.len.fdiv z/\r.len.fdiv z<=60:=by
 haveI h1:=hO.sz.low z hz
 haveI h2:=hO.sz.top z hz
 have h3:=hO.len
 obtain ⟨a,b,c,d⟩:=dH (a:=r.len) (b:=z) (by exact cI 0x98019811 h3.1) h1
 exact ⟨tC a d h2,by exact qw 0x3ca18018100003ca0812 h3.2 b⟩
theorem tE {l:bk} {n:Nat} {g z:Int} {rest:List Int} (a1:l "self" = some (.inst "Room" ri)) (a2:l "size" = some (.int z)) (a3:l "pages" = some (.ref n)) (hn:H[n]? = some (.list ((g::rest).map V.int))) (hz:z∈r.xs) :
  ∃H',A3 (ay (mT) (mU) ⟨l,H⟩= .ok (.ret (.inst "Shelf" H.length)) ⟨l,H'⟩) (aF H' ri { r with ss:=kL r.ss ⟨g,H.length,H.length+2,z,List.replicate (r.len.fdiv z).toNat false⟩ }) (cM [r.d] H H'):=by
 haveI hp:=Ar hR hO hz
 obtain ⟨p1,p2⟩:=qI hR hO hz
 haveI hmk:=HO H g z (r.len.fdiv z) ⟨by exact cI 0x98019811 p1,by exact cI 0x3e8a0800003ca0811 p2⟩
 obtain ⟨k,hk⟩:∃k,(r.len.fdiv z).toNat=k:=⟨_,rfl⟩
 rw [hk] at hmk ⊢
 haveI hdl:=(aab.mp hR.racks).1
 have hP:=aF.put hR hO (g:=g) (z:=z) (k:=k) rfl
 obtain ⟨H2,eH2⟩:∃H2,H++[O.flds (gS g z (H.length+2)),O.list [V.bool false],O.list ((List.replicate k false).map V.bool)]=H2:=⟨_,rfl⟩
 rw [eH2] at hP hmk
 have pre2:H<+:H2:=⟨_,eH2⟩
 have hR2:=hR.pre pre2
 obtain ⟨H3,eH3⟩:∃H3,H2.set r.d (.dict (tz g (.inst "Shelf" H.length) (r.ss.map bD.ent)))=H3:=⟨_,rfl⟩
 rw [eH3] at hP
 haveI hit:∀l,aW (.ref n) (.int 0) ⟨l,H⟩= .ok (.int g) ⟨l,H⟩:=λl=>wT hn
 haveI hit2:∀l,aW (.ref n) (.int 0) ⟨l,H2⟩= .ok (.int g) ⟨l,H2⟩:=λl=>wT (aE pre2 hn)
 haveI hne:r.d≠n:=λe=>by rw [<- e,hR.racks] at hn;cases hn
 haveI hit3:∀l,aW (.ref n) (.int 0) ⟨l,H3⟩= .ok (.int g) ⟨l,H3⟩:=λl=>by
  haveI:H3[n]? = some (.list ((g::rest).map V.int)):=by rw [<- eH3,aaC hne];exact aE pre2 hn
  exact wT this
 haveI hfew:=hO.few
 haveI hset:∀l,bL (.ref r.d) (.int g) (.inst "Shelf" H.length) ⟨l,H2⟩= .ok () ⟨l,H3⟩:=λl=>by
  haveI:(r.ss.map bD.ent).length<1000000:=by simp;exact id (bO 0xf4240a01000028a0011 hfew)
  unfold bL;dsimp only;rw [hR2.racks];dsimp only;rw [if_pos this,eH3]
 haveI hm:∀l,db "Plan" "per" (.inst "Plan" r.pl) ⟨l,H⟩= .ok () ⟨l,H⟩:=λl=>dy hR.plan (Eb _ _ _)
 refine ⟨H3,?_,hP,(cM.pre pre2).trans (by rw [<- eH3];exact cM.set (by simp))⟩
 refine ak (q':=⟨l,H3⟩) ?_ ?_
 ·exists a1,a2,a3,hit,fK hR,hm,hp,hmk,bf hR2,hit2,hset
 ·haveI hf:=mB r.ss ⟨g,H.length,H.length+2,z,List.replicate k false⟩
  exists a1,a3,bf hP,hit3,cK hP hf
theorem FV {z:Int} (hz:z∈r.xs):match sR r.p r.ss with
  | none=> ∃H',hY [.inst "Room" ri,.int z] H= .exc "NoRoom" H'/\H<+:H'
  | some g=> ∃n H',hY [.inst "Room" ri,.int z] H= .ok (.inst "Shelf" n) H'/\H.length<=n/\n+2<H'.length/\(0<=g/\g<r.p) /\
    aF H' ri { r with ss:=kL r.ss ⟨g,n,n+2,z,List.replicate (r.len.fdiv z).toNat false⟩ }/\cM [r.d] H H':=by
 obtain ⟨l0,e0,a1,a2⟩:∃l0,aX ["self", "size"] [.inst "Room" ri,.int z]=l0/\l0 "self" = some (.inst "Room" ri)/\l0 "size" = some (.int z):=⟨_,rfl,rfl,rfl⟩
 obtain ⟨_,hpl,rfl⟩:=AB hR hO
 refine bH (H++[O.list ((iL r.p r.ss).map V.int)]) λH1 eH1=> ?_
 rw [eH1] at hpl
 have pre1:H<+:H1:=⟨_,eH1⟩
 have x1:H1[H.length]? = some (.list ((iL r.p r.ss).map V.int)):=by rw [<- eH1];exact ba _ _
 haveI hR1:=hR.pre pre1
 haveI hm:∀ {f:String} {Hx:Hp} (hRx:aF Hx ri r) (h:f ≠ "plan" /\ f ≠ "racks" /\ f ≠ "cells") (l:bk),db "Room" f (.inst "Room" ri) ⟨l,Hx⟩= .ok () ⟨l,Hx⟩:=λhRx h l=>aS hRx h l
 have s1:mS ⟨l0,H⟩= .ok .next ⟨upd l0 "pages" (.ref H.length),H1⟩:=by
  exists a1,aS hR (f := "pile") ⟨by decide,by decide,by decide⟩,hpl
 refine bH (upd l0 "pages" (.ref H.length)) λl1 el1=> ?_
 rw [el1] at s1
 have b1:l1 "self" = some (.inst "Room" ri):=ah el1 ∅ a1
 have b2:l1 "size" = some (.int z):=ah el1 ∅ a2
 have b3:l1 "pages" = some (.ref H.length):=az el1
 have nw:∀(l:bk) (Hx:Hp),fN [] ⟨l,Hx⟩= .ok (.ref Hx.length) ⟨l,Hx++[.list []]⟩:=λl Hx=>g_nl0 rfl
 have cmp:∀(l:bk) (Hx:Hp) (n:Nat) (ks:List Int),Hx[n]? = some (.list (ks.map V.int))->tB (.ref n) (.ref Hx.length) ⟨l,Hx++[.list []]⟩= .ok (decide (ks=[])) ⟨l,Hx++[.list []]⟩:=λl Hx n ks h =>
  jX (q:=⟨l,Hx++[.list []]⟩) (ys:=[]) (aE ⟨_,rfl⟩ h) (ba _ _)
 refine bH (H1++[O.list []]) λH2 eH2=> ?_
 have pre2:H1<+:H2:=⟨_,eH2⟩
 have hR2:=hR1.pre pre2
 have c2:=cmp l1 H1 H.length _ x1
 have n2:=nw l1 H1
 rw [eH2] at c2 n2
 unfold sR
 cases hpile:iL r.p r.ss with
 | cons g rest =>
  rw [hpile] at x1 c2
  have s2:iT ⟨l1,H1⟩= .ok .next ⟨l1,H2⟩:=by
   exists b3,n2,c2
  refine bH (H2++[O.list []]) λH3 eH3=> ?_
  have pre3:H2<+:H3:=⟨_,eH3⟩
  have c3:=cmp l1 H2 H.length _ (aE pre2 x1)
  have n3:=nw l1 H2
  rw [eH3] at c3 n3
  haveI s3:fL ⟨l1,H2⟩= .ok .next ⟨l1,H3⟩:=by
   exists b3,n3,c3
  haveI hR3:=hR2.pre pre3
  obtain ⟨H4,s4,k1,k2⟩:=tE hR3 hO b1 b2 b3 (aE (pre2.trans pre3) x1) hz
  have p03:=(pre1.trans pre2).trans pre3
  refine ⟨H3.length,H4,a9 (m:=ij) (q:=⟨l1,H4⟩) rfl (by rw [e0];exact ak s1 (ak s2 (ak s3 s4))),p03.length_le,?_,(D7 (by rw [hpile];exact .head _)).1,k1,(cM.pre p03).trans k2⟩
  haveI:=k1.shelf _ (aJ (mB r.ss ⟨g,H3.length,H3.length+2,z,List.replicate (r.len.fdiv z).toNat false⟩)).1
  exact (aab.mp this.ls).1
 | nil =>
  rw [hpile] at x1 c2
  obtain ⟨n,H3,he,pre3,x3⟩:=sX hR2 hO
  haveI hR3:=hR2.pre pre3
  haveI s2:iT ⟨l1,H1⟩= .ok .next ⟨upd l1 "pages" (.ref n),H3⟩:=by
   exists b3,n2,c2,b1,aS hR2 (f := "empty_pages") ⟨by decide,by decide,by decide⟩,he
  refine bH (upd l1 "pages" (.ref n)) λl2 el2=> ?_
  rw [el2] at s2
  haveI d1:l2 "self" = some (.inst "Room" ri):=ah el2 ∅ b1
  haveI d2:l2 "size" = some (.int z):=ah el2 ∅ b2
  have d3:l2 "pages" = some (.ref n):=az el2
  refine bH (H3++[O.list []]) λH4 eH4=> ?_
  have pre4:H3<+:H4:=⟨_,eH4⟩
  haveI c3:=cmp l2 H3 n _ x3
  haveI n3:=nw l2 H3
  rw [eH4] at c3 n3
  have p04:=((pre1.trans pre2).trans pre3).trans pre4
  cases hem:mw r.ss with
  | nil =>
   rw [hem] at c3
   haveI s3x:fL ⟨l2,H3⟩= .exc "NoRoom" ⟨l2,H4⟩:=by
    exists d3,n3,c3
   exact ⟨H4,iC (m:=ij) (q:=⟨l2,H4⟩) rfl (by rw [e0];exact ak s1 (ak s2 (jn s3x))),p04⟩
  | cons g rest =>
   rw [hem] at c3 x3
   haveI s3:fL ⟨l2,H3⟩= .ok .next ⟨l2,H4⟩:=by
    exists d3,n3,c3
   haveI hR4:=hR3.pre pre4
   obtain ⟨H5,s4,k1,k2⟩:=tE hR4 hO d1 d2 d3 (aE pre4 x3) hz
   obtain ⟨s,hs,_⟩:=Do (ss:=r.ss) (g:=g) (by rw [hem];exact .head _)
   obtain ⟨hsm,rfl⟩:=aJ hs
   refine ⟨H4.length,H5,a9 (m:=ij) (q:=⟨l2,H5⟩) rfl (by rw [e0];exact ak s1 (ak s2 (ak s3 s4))),p04.length_le,?_,hO.pg s hsm,k1,(cM.pre p04).trans k2⟩
   haveI:=k1.shelf _ (aJ (mB r.ss ⟨s.pg,H4.length,H4.length+2,z,List.replicate (r.len.fdiv z).toNat false⟩)).1
   exact (aab.mp this.ls).1
end
abbrev Vw:=Int->Option (Int×List Bool)
noncomputable def look (ss:List bD):Vw:=λg=>(dz ss g).map λs=>(s.sz,s.bs)
noncomputable def cL (F:Vw) (g:Int) (v:Option (Int×List Bool)):Vw:=λx=>if x=g then v else F x
theorem bM (F:Vw) (g:Int) (v:Option (Int×List Bool)):cL F g v g=v:=by simp [cL]
theorem dm (F:Vw) {g x:Int} (v:Option (Int×List Bool)) (h:x≠g):cL F g v x=F x:=by simp [cL,h]
noncomputable def cg (p:Int):List Int:=(List.range p.toNat).map Int.ofNat
noncomputable def dJ (p:Int) (F:Vw):List Int:=(cg p).filter λg=>(F g).isSome
theorem bU {p g:Int}:g∈cg p↔0<=g/\g<p:=by
 unfold cg
 rw [aae]
 constructor
 ·rintro ⟨k,hk,rfl⟩
  haveI:=List.mem_range.mp hk
  exact ⟨by simp,Int.lt_toNat.mp this⟩
 ·rintro ⟨h1,h2⟩
  exact ⟨g.toNat,List.mem_range.mpr (by exact fi [_,_] [_,_] 0x1011f18100fa110913 h2 (aai h1) (aaH _)),by simp;exact Int.max_eq_left h1⟩
theorem fu (p:Int):(cg p).Pairwise (· < ·):=aaY.mpr (List.pairwise_lt_range.imp λh=>by simpa using h)
theorem mD {l:List Int} (h:l.Pairwise (· < ·)):l.Nodup:=h.imp λh e=>by exact qw 0x909610b110912 h e
theorem iF {p:Int} {F:Vw} {g:Int}:g∈dJ p F↔(0<=g/\g<p)/\(F g).isSome=true:=by
 unfold dJ;rw [aaD,bU]
theorem bi {ss:List bD} {g:Int} {v:Int×List Bool} (h:look ss g=some v):∃s,A3 (dz ss g=some s) (s.sz=v.1) (s.bs=v.2):=by
 unfold look at h
 cases hf:dz ss g with
 | none=>rw [hf] at h;cases h
 | some s=>rw [hf] at h;cases h;exact ⟨s,rfl,rfl,rfl⟩
theorem Fp {p:Int} {ss:List bD} (hn:(ss.map (·.pg)).Nodup) (hp:∀s∈ss,0<=s.pg/\s.pg<p):cH (ss.map (·.pg))=dJ p (look ss):=by
 have hs:(dJ p (look ss)).Pairwise (· < ·):=(fu p).filter _
 refine (uv ?_ (hs.imp λh=>by exact qw 0x10810911 h)).symm
 refine (List.perm_ext_iff_of_nodup (mD hs) hn).mpr λg=> ?_
 rw [iF]
 constructor
 ·rintro ⟨_,h⟩
  cases hf:look ss g with
  | none=>rw [hf] at h;cases h
  | some v =>
   obtain ⟨s,hs,_⟩:=bi hf
   obtain ⟨h1,h2⟩:=aJ hs
   exact aae.mpr ⟨s,h1,h2⟩
 ·intro h
  obtain ⟨s,hs,rfl⟩:=aae.mp h
  exact ⟨hp s hs,by unfold look;rw [kt hn hs];rfl⟩
noncomputable def jE (F:Vw) (z g:Int):Bool:=match F g with | some v=>decide (v.1=z) | none=>false
noncomputable def Dk (F:Vw) (g:Int):Bool:=match F g with | some v=>decide (v.2.count true=0) | none=>false
theorem Fw (ss:List bD) (z g:Int):(match dz ss g with | some s=>decide (s.sz=z) | none=>false)=jE (look ss) z g:=by
 unfold jE look;cases dz ss g<;>rfl
theorem Fv (ss:List bD) (g:Int):(match dz ss g with | some s=>decide (s.bs.count true=0) | none=>false)=Dk (look ss) g:=by
 unfold Dk look;cases dz ss g<;>rfl
noncomputable def bW (p:Int) (F:Vw) (z:Int):List Int:=(dJ p F).filter (jE F z)
noncomputable def lX (p:Int) (F:Vw):List Int:=(dJ p F).filter (Dk F)
noncomputable def tq (p:Int) (F:Vw):List Int:=(cg p).filter λg=>(F g).isNone
theorem xp (p:Int) (ss:List bD):iL p ss=tq p (look ss):=by
 unfold iL tq cg
 refine List.filter_congr λg _=> ?_
 unfold look;cases dz ss g<;>rfl
noncomputable def zV (p:Int) (F:Vw):Option Int:=match tq p F with
 | g::_=>some g
 | []=>(lX p F).head?
theorem oH (f:bD->bD) (hf:∀s,(f s).pg=s.pg):∀(ss:List bD) (g:Int),dz (ss.map f) g=(dz ss g).map f
 | [],_=>rfl
 | a::ss,g=>by
  unfold dz
  rw [aas]
  by_cases e:a.pg=g
  ·rw [aaG (by simpa [hf] using e),aaG (by simpa using e)];rfl
  ·rw [aay (p:=λs:bD=>s.pg==g) (by simpa [hf] using e),aay (p:=λs:bD=>s.pg==g) (by simpa using e)];exact oH f hf ss g
theorem oM {ss:List bD} {g:Int} {s:bD} (h:dz ss g=some s) (bs:List Bool):look (setBs ss g bs)=cL (look ss) g (some (s.sz,bs)):=by
 funext x
 have e:=oH (λs=>if s.pg=g then { s with bs:=bs } else s) (λs=>by split<;>rfl) ss x
 unfold look setBs
 rw [e]
 by_cases hx:x=g
 ·subst hx
  rw [h,bM]
  have:=(aJ h).2
  simp [this]
 ·rw [dm _ _ hx]
  cases hf:dz ss x with
  | none=>rfl
  | some a =>
   haveI:=(aJ hf).2
   simp [this,hx]
theorem AZ (g:Int):∀(ss:List bD) (x:Int),dz (gY ss g) x=if x=g then none else dz ss x
 | [],x=>by simp [gY,dz]
 | a::ss,x=>by
  have ih:=AZ g ss x
  unfold gY at ih ⊢
  by_cases e:a.pg=g
  ·rw [aaV (by simp [e]),ih]
   by_cases hx:x=g
   ·rw [if_pos hx,if_pos hx]
   ·rw [if_neg hx,if_neg hx];unfold dz;rw [aay (p:=λs:bD=>s.pg==x) (wN e hx)]
  ·rw [aaU (by simp [e])]
   unfold dz at ih ⊢
   by_cases e2:a.pg=x
   ·rw [aaG (by simpa using e2),aaG (by simpa using e2),if_neg λq=>e (e2.trans q)]
   ·rw [aay (p:=λs:bD=>s.pg==x) (by simpa using e2),aay (p:=λs:bD=>s.pg==x) (by simpa using e2)];exact ih
theorem tR (ss:List bD) (g:Int):look (gY ss g)=cL (look ss) g none:=by
 funext x
 unfold look cL
 rw [AZ]
 split<;>rfl
theorem zU (ss:List bD) (s:bD) {x:Int} (hx:x≠s.pg):dz (kL ss s) x=dz ss x:=by
 unfold kL
 split
 ·rename_i h0
  clear h0
  induction ss with
  | nil=>rfl
  | cons a ss ih =>
   unfold dz at ih ⊢
   rw [aas]
   by_cases e:a.pg=s.pg
   ·rw [if_pos e,aay (p:=λs:bD=>s.pg==x) (wN rfl hx),aay (p:=λs:bD=>s.pg==x) (wN e hx),ih]
   ·rw [if_neg e]
    by_cases e2:a.pg=x
    ·rw [aaG (by simpa using e2),aaG (by simpa using e2)]
    ·rw [aay (p:=λs:bD=>s.pg==x) (by simpa using e2),aay (p:=λs:bD=>s.pg==x) (by simpa using e2),ih]
 ·unfold dz
  rw [List.find?_append,aay (p:=λs:bD=>s.pg==x) (wN rfl hx)]
  simp
theorem DK (ss:List bD) (s:bD):look (kL ss s)=cL (look ss) s.pg (some (s.sz,s.bs)):=by
 funext x
 by_cases hx:x=s.pg
 ·subst hx;rw [bM];unfold look;rw [mB];rfl
 ·rw [dm _ _ hx];unfold look;rw [zU _ _ hx]
theorem Rm.Ok.keys {r:Rm} (h:r.Ok):cH (r.ss.map (·.pg))=dJ r.p (look r.ss):=Fp h.ndp h.pg
theorem Rm.Ok.ofSz {r:Rm} (h:r.Ok) (z:Int):Mine.Lake.ofSz r.ss z=bW r.p (look r.ss) z:=by
 unfold Mine.Lake.ofSz bW;rw [h.keys];exact List.filter_congr λg _=>Fw r.ss z g
theorem Rm.Ok.empt {r:Rm} (h:r.Ok):mw r.ss=lX r.p (look r.ss):=by
 unfold mw lX;rw [h.keys];exact List.filter_congr λg _=>Fv r.ss g
theorem Rm.Ok.fresh {r:Rm} (h:r.Ok):sR r.p r.ss=zV r.p (look r.ss):=by
 unfold sR zV;rw [xp,h.empt];try rfl
noncomputable def dA (F:Vw) (g:Int):Nat:=match F g with | some v=>v.2.count true | none=>0
noncomputable def xX (F:Vw) (n:Nat):Option Int->Bool
 | none=>true
 | some g'=>decide (dA F g'<n)
noncomputable def Ia (F:Vw) (b:Option Int) (g:Int):Bool:=match F g with
 | some v=>(bg v.2).isSome&&xX F (v.2.count true) b
 | none=>false
noncomputable def EW (F:Vw):Option Int->List Int->Option Int
 | b,[]=>b
 | b,g::r=>EW F (if Ia F b g then some g else b) r
theorem E4 (F:Vw) (b:Option Int):EW F b []=b:=rfl
theorem qs:∀(bs:List Bool) (a:Int),decide (gw a bs=[]) = !(bg bs).isSome
 | [],_=>rfl
 | false::r,a=>rfl
 | true::r,a=>by
  haveI:=qs r (a+1)
  show decide (gw (a+1) r=[]) = !((bg r).map (· + 1)).isSome
  rw [Option.isSome_map];exact this
theorem AT {F:Vw}:∀ {l:List Int} {b:Option Int} {g:Int},EW F b l=some g->b=some g\/(g∈l/\ ∃v,F g=some v/\(bg v.2).isSome=true)
 | [],b,g,h=> .inl h
 | x::l,b,g,h=>by
  change EW F (if Ia F b x then some x else b) l=some g at h
  rcases AT h with h1 | ⟨h1,h2⟩
  ·split at h1
   ·rename_i hok
    cases h1
    refine .inr ⟨.head _,?_⟩
    unfold Ia at hok
    split at hok
    ·rename_i v hv;exact ⟨v,hv,by simp at hok;simp [hok.1]⟩
    ·cases hok
   ·exact .inl h1
  ·exact .inr ⟨.tail _ h1,h2⟩
section
variable {H:Hp} {ri:Nat} {r:Rm} (hR:aF H ri r) (hO:r.Ok)
noncomputable def vY (ss:List bD):Option Int->V
 | none=> .none
 | some g=>match dz ss g with | some s=> .inst "Shelf" s.sh | none=> .none
inductive IT (H:Hp) (ri:Nat) (r:Rm) (z w:Int) (B:Option Int) (rem:List V) (q:S):Prop
 | mk (b:Option Int) (ys:List Int) (f0:rem=ys.map V.int) (f1:(∀g∈ys,∃s,dz r.ss g=some s)) (f2:EW (look r.ss) b ys=B) (f3:(∀g,b=some g-> ∃s,dz r.ss g=some s)) (f4:q.l "best" = some (vY r.ss b)) (f5:q.l "self" = some (.inst "Room" ri)) (f6:q.l "size" = some (.int z)) (f7:H<+:q.H)
include hR hO
theorem xv {s:bD} (hs:s∈r.ss) (l:bk):(∀l,db "Shelf" "free" (.inst "Shelf" s.sh) ⟨l,H⟩= .ok () ⟨l,H⟩)/\bA (dU) [.inst "Shelf" s.sh] ⟨l,H⟩= .ok (.ref H.length) ⟨l,H++[.list ((gw 0 s.bs).map V.int)]⟩:=by
 have hS:=hR.shelf s hs
 exact ⟨λl=>dy hS.ob rfl,by rw [qJ,HK hS (hO.bslen hs)]⟩
theorem xw {s:bD} (hs:s∈r.ss) (l:bk):(∀l,db "Shelf" "out" (.inst "Shelf" s.sh) ⟨l,H⟩= .ok () ⟨l,H⟩)/\bA (bQ) [.inst "Shelf" s.sh] ⟨l,H⟩= .ok (.int (s.bs.count true)) ⟨l,H++[.list (List.replicate (s.bs.count true) (V.bool true))]⟩:=by
 have hS:=hR.shelf s hs
 exact ⟨λl=>dy hS.ob rfl,by rw [qJ,GE hS (hO.bslen hs)]⟩
theorem BS {z w:Int} {B:Option Int} (x:V) (rem:List V) (q:S) (hI:IT H ri r z w B (x::rem) q):∃q',A3 (((aY "page" x).b λ_=>jv) q= .ok .next q') (q.H<+:q'.H) (IT H ri r z w B rem q'):=by
 obtain ⟨b,ys,e,h1,h2,h3,h4,h5,h6,h7⟩:=hI
 obtain ⟨l,Hq⟩:=q
 dsimp only at h4 h5 h6 h7
 cases ys with
 | nil=>simp at e
 | cons g ys =>
  obtain ⟨rfl,rfl⟩:x= .int g/\rem=ys.map V.int:=by simpa using e
  obtain ⟨s,hs⟩:=h1 g (.head _)
  have hm:=(aJ hs).1
  have hRq:=hR.pre h7
  haveI hl:look r.ss g=some (s.sz,s.bs):=by unfold look;rw [hs];rfl
  refine bH (Hq++[O.list ((gw 0 s.bs).map V.int)]) λH2 e2=> ?_
  refine bH (H2++[O.list []]) λH3 e3=> ?_
  have p2:Hq<+:H2:=⟨_,e2⟩
  have p3:H2<+:H3:=⟨_,e3⟩
  refine bH (upd (upd l "page" (.int g)) "shelf" (.inst "Shelf" s.sh)) λl1 el1=> ?_
  have a1:l1 "shelf" = some (.inst "Shelf" s.sh):=az el1
  have a2:l1 "best" = some (vY r.ss b):=lp el1 ∅ ∅ h4
  have a3:l1 "self" = some (.inst "Room" ri):=lp el1 ∅ ∅ h5
  have a4:l1 "size" = some (.int z):=lp el1 ∅ ∅ h6
  haveI hself:upd l "page" (.int g) "self" = some (.inst "Room" ri):=ah rfl ∅ h5
  obtain ⟨m1,c1⟩:=xv hRq hO hm l1
  rw [e2] at c1
  have n1:fN [] ⟨l1,H2⟩= .ok (.ref H2.length) ⟨l1,H3⟩:=by rw [kQ,if_pos (by simp),e3]
  haveI g1:H3[Hq.length]? = some (.list ((gw 0 s.bs).map V.int)):=aE p3 (by rw [<- e2];simp)
  have q1:tB (.ref Hq.length) (.ref H2.length) ⟨l1,H3⟩= .ok (!(bg s.bs).isSome) ⟨l1,H3⟩:=by
   rw [jX (q:=⟨l1,H3⟩) (ys:=[]) g1 (by rw [<- e3];simp),qs]
  haveI s1:((aY "page" (.int g)).b λ_=>(((af "self").b λv13=>aA "racks" v13).b λv14=>(af "page").b λv15=>aW v14 v15).b λv16=>(aY "shelf" v16).b λ_=>Cm.p Fl.next) ⟨l,Hq⟩= .ok .next ⟨l1,Hq⟩:=by
   exists hself,bf hRq,cK hRq hs,el1
  have key:∀rr m,(m ⟨l1,Hq⟩=rr)->((aY "page" (.int g)).b λ_=>ay ((((af "self").b λv13=>aA "racks" v13).b λv14=>(af "page").b λv15=>aW v14 v15).b λv16=>(aY "shelf" v16).b λ_=>Cm.p Fl.next) m) ⟨l,Hq⟩=rr:=λrr m hh=>by
   rw [pL,y8] at s1 ⊢
   exact ak s1 hh
  have hbst:EW (look r.ss) b (g::ys)=EW (look r.ss) (if Ia (look r.ss) b g then some g else b) ys:=rfl
  have hok:Ia (look r.ss) b g=((bg s.bs).isSome&&xX (look r.ss) (s.bs.count true) b):=by unfold Ia;rw [hl]
  rw [hbst,hok] at h2
  have gZ:∀(bb:Bool) (H':Hp),((bg s.bs).isSome&&xX (look r.ss) (s.bs.count true) b)=bb->Hq<+:H' ->
    IT H ri r z w B (ys.map V.int) (if bb then ⟨upd l1 "best" (.inst "Shelf" s.sh),H'⟩ else ⟨l1,H'⟩):=λbb H' hbb hp=>by
   rw [hbb] at h2
   cases bb with
   | true =>
    refine ⟨some g,ys,rfl,λg' hg'=>h1 g' (.tail _ hg'),h2,λg' e=>by cases e;exact ⟨s,hs⟩,?_,?_,?_,h7.trans hp⟩
    ·simp [upd,vY,hs]
    ·simpa [upd] using a3
    ·simpa [upd] using a4
   | false=>exact ⟨b,ys,rfl,λg' hg'=>h1 g' (.tail _ hg'),h2,h3,a2,a3,a4,h7.trans hp⟩
  cases hf:(bg s.bs).isSome with
  | false =>
   rw [hf] at q1
   haveI:=gZ false H3 (by rw [hf];rfl) (p2.trans p3)
   refine ⟨⟨l1,H3⟩,key _ _ ?_,p2.trans p3,this⟩
   exists a1,m1,c1,n1,q1
  | true =>
   rw [hf] at q1
   cases b with
   | none =>
    haveI:=gZ true H3 (by rw [hf];rfl) (p2.trans p3)
    refine ⟨⟨upd l1 "best" (.inst "Shelf" s.sh),H3⟩,key _ _ ?_,p2.trans p3,this⟩
    simp only [vY] at a2
    exists a1,m1,c1,n1,q1,a2
   | some g' =>
    obtain ⟨s',hs'⟩:=h3 g' rfl
    haveI hm':=(aJ hs').1
    have hRq3:=hRq.pre (p2.trans p3)
    obtain ⟨m2,c2⟩:=xw hRq3 hO hm l1
    refine bH (H3++[O.list (List.replicate (s.bs.count true) (V.bool true))]) λH4 e4=> ?_
    rw [e4] at c2
    have p4:H3<+:H4:=⟨_,e4⟩
    obtain ⟨m3,c3⟩:=xw (hRq3.pre p4) hO hm' l1
    refine bH (H4++[O.list (List.replicate (s'.bs.count true) (V.bool true))]) λH5 e5=> ?_
    rw [e5] at c3
    have p5:Hq<+:H5:=((p2.trans p3).trans p4).trans ⟨_,e5⟩
    haveI hc':dA (look r.ss) g'=s'.bs.count true:=by unfold dA look;rw [hs'];rfl
    have a2':l1 "best" = some (.inst "Shelf" s'.sh):=by rw [a2];simp [vY,hs']
    have hdec:decide (((s.bs.count true:Nat):Int)>((s'.bs.count true:Nat):Int))=decide (dA (look r.ss) g'<s.bs.count true):=by rw [hc'];exact decide_eq_decide.mpr Ds
    cases hb:decide (dA (look r.ss) g'<s.bs.count true) with
    | true =>
     haveI:=gZ true H5 (by rw [hf];simp only [xX,hb];rfl) p5
     refine ⟨⟨upd l1 "best" (.inst "Shelf" s.sh),H5⟩,key _ _ ?_,p5,this⟩
     exists a1,m1,c1,n1,q1,a2',m2,c2,m3,c3,hdec,hb
    | false =>
     haveI:=gZ false H5 (by rw [hf];simp only [xX,hb];rfl) p5
     refine ⟨⟨l1,H5⟩,key _ _ ?_,p5,this⟩
     exists a1,m1,c1,n1,q1,a2',m2,c2,m3,c3,hdec,hb
end
noncomputable def Rm.own (ri:Nat) (r:Rm):List Nat:=ri::r.d::r.c::(r.ss.map (·.sh)++r.ss.map (·.t))
structure Rm.Sm (r r':Rm):Prop where
 pl:r'.pl=r.pl
 d:r'.d=r.d
 c:r'.c=r.c
 m:r'.m=r.m
 p:r'.p=r.p
 len:r'.len=r.len
 xs:r'.xs=r.xs
theorem Rm.Sm.rfl (r:Rm):r.Sm r:=⟨by rfl,by rfl,by rfl,by rfl,by rfl,by rfl,by rfl⟩
theorem Rm.Sm.ss (r:Rm) (ss:List bD):r.Sm { r with ss:=ss }:=⟨by rfl,by rfl,by rfl,by rfl,by rfl,by rfl,by rfl⟩
theorem Rm.Sm.cs (r:Rm) (cs:List Int):r.Sm { r with cs:=cs }:=⟨by rfl,by rfl,by rfl,by rfl,by rfl,by rfl,by rfl⟩
theorem Rm.Sm.trans {a b c:Rm} (h:a.Sm b) (k:b.Sm c):a.Sm c:=⟨k.pl.trans h.pl,k.d.trans h.d,k.c.trans h.c,k.m.trans h.m,k.p.trans h.p,k.len.trans h.len,k.xs.trans h.xs⟩
theorem uu (ss:List bD) (g:Int) (bs:List Bool):(setBs ss g bs).map (·.sh)=ss.map (·.sh):=by
 unfold setBs;rw [aaQ];refine abf λs _=> ?_
 show bD.sh (if s.pg=g then { s with bs:=bs } else s)=_
 split<;>rfl
theorem DW (ri:Nat) (r:Rm):r.c∈r.own ri:=by simp [Rm.own]
theorem DX (ri:Nat) (r:Rm):r.d∈r.own ri:=by simp [Rm.own]
theorem DY (ri:Nat) {r:Rm} {s:bD} (h:s∈r.ss):s.t∈r.own ri:=by simp [Rm.own];exact .inr (.inr (.inr (.inr ⟨s,h,rfl⟩)))
theorem Bn {n:Nat} (ri:Nat) (r:Rm) (x:bD) (h1:n<=x.sh) (h2:n<=x.t):∀i∈Rm.own ri { r with ss:=kL r.ss x },i∈r.own ri\/n<=i:=λi hi=>by
 unfold Rm.own at hi ⊢
 simp at hi
 rcases hi with h | h | h | ⟨s,hs,rfl⟩ | ⟨s,hs,rfl⟩
 ·left;simp [h]
 ·left;simp [h]
 ·left;simp [h]
 ·rcases gC hs with rfl | ⟨hs,_⟩
  ·exact .inr h1
  ·left;simp;exact .inr (.inr (.inr (.inl ⟨s,hs,rfl⟩)))
 ·rcases gC hs with rfl | ⟨hs,_⟩
  ·exact .inr h2
  ·left;simp;exact .inr (.inr (.inr (.inr ⟨s,hs,rfl⟩)))
theorem cM.trans' {F F':List Nat} {H H' H'':Hp} (a:cM F H H') (b:cM F' H' H'') (h:∀i∈F',i∈F\/H.length<=i):cM F H H'' :=
 ⟨aam a.len b.len,λi hi hn=>(b.same i (aaX hi a.len) λhm=>(h i hm).elim hn λh=>by exact bP 0x9096010110112 hi h).trans (a.same i hi hn)⟩
theorem Ap {H:Hp} {ri:Nat} {r:Rm} (h:aF H ri r):∀i∈r.own ri,i<H.length:=λi hi=>by
 have lt:∀ {j:Nat} {o:O},H[j]? = some o->j<H.length:=λh=>(aab.mp h).1
 unfold Rm.own at hi
 simp at hi
 rcases hi with rfl | rfl | rfl | ⟨s,hs,rfl⟩ | ⟨s,hs,rfl⟩
 ·exact lt h.ob
 ·exact lt h.racks
 ·exact lt h.cells
 ·exact lt (h.shelf s hs).ob
 ·exact lt (h.shelf s hs).ls
noncomputable def yY (p len:Int) (F:Vw) (z:Int):Option (Int×Vw):=match EW F none (bW p F z) with
 | some g=>some (g,F)
 | none=>(zV p F).map λg=>(g,cL F g (some (z,List.replicate (len.fdiv z).toNat false)))
section
variable {H:Hp} {ri:Nat} {r:Rm} (hR:aF H ri r) (hO:r.Ok)
include hR hO
theorem xt {i v:Int} (h0:0<=i) (h1:i<r.cs.length) (l:bk):bL (.ref r.c) (.int i) (.int v) ⟨l,H⟩= .ok () ⟨l,H.set r.c (.list ((r.cs.set i.toNat v).map V.int))⟩:=by
 haveI h2:=hO.cs
 haveI h3:r.p*r.len<=40*60:=Int.mul_le_mul hO.p.2 hO.len.2 (by haveI:=hO.len;exact id (cI 0x98019811 this.1)) ∅
 haveI h4:i<1000000:=by exact Ck 0xf4240a0900003ca28d18110fa10f0913 h1 h2 h3
 unfold bL;dsimp only;rw [hR.cells];dsimp only;rw [if_pos ⟨h0,h4,by rw [aak];exact h1⟩,List.map_set]
theorem Br {i:Int} (h0:0<=i) (h1:i<r.cs.length):∃v,r.cs[i.toNat]? = some v/\ ∀l,aW (.ref r.c) (.int i) ⟨l,H⟩= .ok (.int v) ⟨l,H⟩:=by
 haveI h2:=hO.cs
 haveI h3:r.p*r.len<=40*60:=Int.mul_le_mul hO.p.2 hO.len.2 (by haveI:=hO.len;exact id (cI 0x98019811 this.1)) ∅
 haveI h4:i<1000000:=by exact Ck 0xf4240a0900003ca28d18110fa10f0913 h1 h2 h3
 have h5:i.toNat<r.cs.length:=by exact kK 0x1101fa10f0912 h1 (aai h0)
 exact ⟨r.cs[i.toNat],aao h5,λl=>by unfold aW;dsimp only;rw [hR.cells];dsimp only;rw [if_pos ⟨h0,h4⟩,List.getElem?_map,aao h5];rfl⟩
omit hR in
theorem nv {s:bD} (hs:s∈r.ss) {k:Int} (h0:0<=k) (h1:k<s.bs.length) {j:Int} (h2:0<=j) (h3:j<s.sz):A4 (0<=s.pg*r.len+k*s.sz+j) (s.pg*r.len+k*s.sz+j<r.cs.length) (k*s.sz+j<r.len) (0<=k*s.sz):=by
 have a1:=hO.pg s hs
 haveI a2:=hO.slots s hs
 have a3:=hO.szpos hs
 have a4:=hO.len
 have a5:=(dH (a:=r.len) (b:=s.sz) (by exact cI 0x98019811 a4.1) a3.1).2.2.1
 haveI b1:0<=s.pg*r.len:=Int.mul_nonneg a1.1 (by exact cI 0x98019811 a4.1)
 have b2:0<=k*s.sz:=Int.mul_nonneg h0 (by exact cI 0x98019811 a3.1)
 have b3:(k+1)*s.sz<=r.len.fdiv s.sz*s.sz:=Int.mul_le_mul_of_nonneg_right (by exact Ck 0x1190c810fa10f0912 h1 a2) (by exact cI 0x98019811 a3.1)
 haveI b4:(s.pg+1)*r.len<=r.p*r.len:=Int.mul_le_mul_of_nonneg_right (by exact qw 0x1190c810911 a1.2) (by exact cI 0x98019811 a4.1)
 rw [Int.add_mul] at b3 b4
 haveI:=hO.cs
 refine ⟨by exact EY 0x21cc0982098110981009813 h2 b1 b2,by exact fi [_] [_,_,_,_,_,_,_] 0xf045cc960fb16301d5c812101d4c81328110915 h3 a5 b3 b4 this,by exact fi [] [_,_,_,_,_] 0x304c92101d4c81328110913 h3 a5 b3,b2⟩
omit hR hO in
theorem Bu (p:Int):bE 0 p.toNat=(cg p).map V.int:=by
 unfold cg;rw [List.range_eq_range',<- iq];rfl
noncomputable def zS (b:Int):List Int->List Int->List Int
 | cs,[]=>cs
 | cs,y::ys=>zS b (cs.set (b+y).toNat 0) ys
omit hR hO in
theorem EV (b:Int):∀(ys cs:List Int),(zS b cs ys).length=cs.length
 | [],_=>rfl
 | y::ys,cs=>by unfold zS;rw [EV b ys,List.length_set]
inductive JP (H:Hp) (ri:Nat) (r:Rm) (pl z:Int) (Z:List Int) (rem:List V) (q:S):Prop
 | mk (cs ys:List Int) (f0:rem=ys.map V.int) (f1:(∀y∈ys,0<=y/\y<z)) (f2:cs.length=r.cs.length) (f3:aF q.H ri { r with cs:=cs }) (f4:cM [r.c] H q.H) (f5:q.l "self" = some (.inst "Room" ri)) (f6:q.l "place" = some (.int pl)) (f7:zS pl cs ys=Z)
omit hR hO in
theorem uk (n:Int):∃ys:List Int,bE 0 n.toNat=ys.map V.int/\ ∀y∈ys,0<=y/\y<n:=by
 refine ⟨(List.range' 0 n.toNat).map Int.ofNat,iq _ 0,λy hy=> ?_⟩
 obtain ⟨k,hk,rfl⟩:=aae.mp hy
 haveI:=List.mem_range'.mp hk
 obtain ⟨i,h1,h2⟩:=this
 exact ⟨by simp,by rw [h2,aa6,Nat.one_mul];exact Int.lt_toNat.mp h1⟩
theorem CG {pl z:Int} (hz:0<=z/\z<=1000) (hin:∀j,0<=j->j<z->0<=pl+j/\pl+j<r.cs.length) {l:bk} (h1:l "self" = some (.inst "Room" ri)) (h2:l "place" = some (.int pl)) (h3:l "size" = some (.int z)) :
  ∃q',A4 (jH ⟨l,H⟩= .ok .next q') (aF q'.H ri { r with cs:=zS pl r.cs (cg z) }) (cM [r.c] H q'.H) (q'.l "place" = some (.int pl)):=by
 refine nK λG kG=> ?_
 haveI e:=Bu z
 obtain ⟨q',hq,cs,ys,e8,_,_,i2,i3,i4,i5,i8⟩:=fE (g:=λ_=>True) (bd:=aY "step") (body:=nI) (JP H ri r pl z (zS pl r.cs (cg z))) (λx rem q hI=>by
  obtain ⟨cs,ys,e,h1,h2,h3,h4,h5,h6,h7⟩:=hI
  obtain ⟨l,Hq⟩:=q
  dsimp only at h3 h4 h5 h6
  cases ys with
  | nil=>simp at e
  | cons y ys =>
   obtain ⟨rfl,rfl⟩:x= .int y/\rem=ys.map V.int:=by simpa using e
   obtain ⟨y1,y2⟩:=h1 y (.head _)
   have hO':=Rm.Ok.setCs hR hO h2
   obtain ⟨k1,k2⟩:=hin y y1 y2
   haveI hc:=xt h3 hO' (i:=pl+y) (v:=0) k1 (by show _<((cs.length:Nat):Int);exact id (fi [_,_] [_,_] 0xf10c91f10c9110312 h2 k2)) (upd l "step" (.int y))
   haveI hc2:=mM h3 (upd l "step" (.int y))
   have a1:upd l "step" (.int y) "self" = some (.inst "Room" ri):=ah rfl ∅ h5
   have a2:upd l "step" (.int y) "place" = some (.int pl):=ah rfl ∅ h6
   refine ⟨⟨upd l "step" (.int y),Hq.set r.c (.list ((cs.set (pl+y).toNat 0).map V.int))⟩,?_,trivial,cs.set (pl+y).toNat 0,ys,rfl,λy' hy'=>h1 y' (.tail _ hy'),by rw [List.length_set];exact h2,aF.setCs h3 hO' _,h4.trans (cM.set (by simp)),a1,a2,h7⟩
   exists a1,a2,hc2,hc) _ ⟨l,H⟩ ⟨r.cs,cg z,e,λy hy=>bU.mp hy,rfl,hR,cM.refl _ _,h1,h2,rfl⟩
 cases ys with
 | cons _ _=>simp at e8
 | nil =>
 change cs=_ at i8
 rw [i8] at i2
 refine kG ⟨q',?_,i2,i3,i5⟩
 exists h3,iN z _ (I6 hz)
 exact hq
theorem Bs {s:bD} (hs:s∈r.ss) {k:Nat} (hk:bg s.bs=some k) (l:bk):A4 (∀l,db "Shelf" "take" (.inst "Shelf" s.sh) ⟨l,H⟩= .ok () ⟨l,H⟩) (bA (fD) [.inst "Shelf" s.sh] ⟨l,H⟩= .ok (.int k) ⟨l,H.set s.t (.list ((s.bs.set k true).map V.bool))⟩) (aF (H.set s.t (.list ((s.bs.set k true).map V.bool))) ri { r with ss:=setBs r.ss s.pg (s.bs.set k true) }) (Rm.Ok { r with ss:=setBs r.ss s.pg (s.bs.set k true) }):=by
 have hS:=hR.shelf s hs
 exact ⟨λl=>dy hS.ob rfl,by rw [qJ,HQ hS (hO.bslen hs),hk],aF.setBs hR hO hs _,Rm.Ok.setBs hR hO hs (by simp)⟩
theorem wE {g z:Int} {s:bD} (hf:dz r.ss g=some s) (hz:s.sz=z) {k:Nat} (hk:bg s.bs=some k) {l:bk} (h1:l "self" = some (.inst "Room" ri)) (h2:l "best" = some (.inst "Shelf" s.sh)) (h3:l "size" = some (.int z)) :
  ∃r' q',A8 (ay (jG) (ay (jH) (n9)) ⟨l,H⟩= .ok (.ret (.int (g*r.len+k*z))) q') (aF q'.H ri r') r'.Ok (r.Sm r') (look r'.ss=cL (look r.ss) g (some (z,s.bs.set k true))) (cM (r.own ri) H q'.H) (r'.own ri=r.own ri) (r'.cs=zS (g*r.len+k*z) r.cs (cg z)):=by
 refine nK λG kG=> ?_
 obtain ⟨hs,rfl⟩:=aJ hf
 subst hz
 obtain ⟨m1,c1,R1,O1⟩:=Bs hR hO hs hk l
 refine bH (H.set s.t (.list ((s.bs.set k true).map V.bool))) λH1 e1=> ?_
 haveI g1:cM (r.own ri) H H1:=by rw [<- e1];exact cM.set (DY ri hs)
 rw [e1] at c1 R1
 have hk':=(gu hk).1
 haveI hb:=hO.bslen hs
 have hpg:=hO.pg s hs
 haveI hp:=hO.p
 haveI hs1:jd H1 s.sh s.t s.pg s.sz (s.bs.set k true):=R1.shelf { s with bs:=s.bs.set k true } (aae.mpr ⟨s,hs,by simp⟩)
 haveI vb:=sW R1 (s:={ s with bs:=s.bs.set k true }) hs1 k ⟨hpg.1,by show s.pg<1000;exact id (qw 0x3e8a09000028a18110912 hpg.2 hp.2)⟩ ⟨by exact bO 0xf0980,by exact bP 0x3e8a0f90003e8a10110112 hk' hb⟩
 dsimp only at vb
 haveI s5:jG ⟨l,H⟩= .ok .next ⟨upd l "place" (.int (s.pg*r.len+k*s.sz)),H1⟩:=by
  exists h1,h2,aS hR (f := "begin") ⟨by decide,by decide,by decide⟩,m1,c1,vb
 have hsz:=hO.szpos hs
 haveI hlen:=hO.len
 obtain ⟨q',i0,i2,i3,i4⟩:=CG R1 O1 (pl:=s.pg*r.len+k*s.sz) (z:=s.sz) ⟨by exact cI 0x98019811 hsz.1,by exact qw 0x3e8a0800003ca18110812 hsz.2 hlen.2⟩ (λj j1 j2=>by
   obtain ⟨u1,u2,_⟩:=nv hO hs (k:=k) (by exact bO 0xf0980) (by exact bP 0x1f0f910111 hk') j1 j2
   exact ⟨u1,u2⟩) (l:=upd l "place" (.int (s.pg*r.len+k*s.sz))) (ah rfl ∅ h1) (by simp [upd]) (ah rfl ∅ h3)
 refine kG ⟨_,q',ak s5 (ak i0 ?_),i2,Rm.Ok.setCs R1 O1 (EV _ _ _),(Rm.Sm.ss r _).trans (Rm.Sm.cs _ _),?_,g1.trans (i3.mono λi hi _=> ?_),?_,rfl⟩
 ·obtain ⟨l',H'⟩:=q'
  dsimp only at i4
  exists i4
 ·show look (setBs r.ss s.pg (s.bs.set k true))=_
  exact oM hf _
 ·rw [aag.mp hi];exact DW ri r
 ·show Rm.own ri { r with ss:=setBs r.ss s.pg (s.bs.set k true) }=_
  unfold Rm.own
  dsimp only
  rw [uu,nu]
omit hR hO in
theorem oF {n:Nat} (h:0<n):bg (List.replicate n false)=some 0:=by
 cases n with
 | zero=>exact id ((fi [] [] 0x90960909111 h).elim)
 | succ n=>rfl
theorem EI {w:Int} (hw:1<=w):match r.xs.find? (λx=>decide (x>=w)) with
  | none=>gr [.inst "Room" ri,.int w] H= .exc "TooLarge" H
  | some z=>match yY r.p r.len (look r.ss) z with
   | none=> ∃H',gr [.inst "Room" ri,.int w] H= .exc "NoRoom" H'/\H<+:H'
   | some gF=> ∃bs k r' H',gF.2 gF.1=some (z,bs)/\bg bs=some k/\gr [.inst "Room" ri,.int w] H= .ok (.int (gF.1*r.len+(k:Nat)*z)) H'/\aF H' ri r'/\r'.Ok/\r.Sm r' /\
     look r'.ss=cL gF.2 gF.1 (some (z,bs.set k true))/\cM (r.own ri) H H'/\(∀i∈r'.own ri,i∈r.own ri\/H.length<=i)/\r'.cs=zS (gF.1*r.len+(k:Nat)*z) r.cs (cg z):=by
 obtain ⟨l0,e0,a1,a2⟩:∃l0,aX ["self", "places"] [.inst "Room" ri,.int w]=l0/\l0 "self" = some (.inst "Room" ri)/\l0 "places" = some (.int w):=⟨_,rfl,rfl,rfl⟩
 have hsf:=uV H r.pl r.p r.len r.xs w hR.isPlan
 rw [if_neg (by exact cI 0x190d019811 hw)] at hsf
 have hmp:∀l,db "Plan" "size_for" (.inst "Plan" r.pl) ⟨l,H⟩= .ok () ⟨l,H⟩:=λl=>dy hR.plan (Hw _ _ _)
 cases hz:r.xs.find? (λx=>decide (x>=w)) with
 | none =>
  rw [hz] at hsf
  refine iC (m:=gA) (q:=⟨l0,H⟩) rfl ?_
  rw [e0]
  refine jn (bx ?_)
  exact bq (bq (g_get a1) (fK hR _)) (bq (hmp _) (bq (bq (g_get a2) rfl) (ky hsf)))
 | some z =>
  rw [hz] at hsf
  have hzx:z∈r.xs:=aaT hz
  dsimp only
  refine nK λG kG=> ?_
  have s1:nZ ⟨l0,H⟩= .ok .next ⟨upd l0 "size" (.int z),H⟩:=by exists a1,a2,fK hR,hmp,hsf
  have s2:n7 ⟨upd l0 "size" (.int z),H⟩= .ok .next ⟨upd (upd l0 "size" (.int z)) "best" .none,H⟩:=rfl
  refine bH (upd (upd l0 "size" (.int z)) "best" .none) λl2 el2=> ?_
  rw [el2] at s2
  have b1:l2 "self" = some (.inst "Room" ri):=lp el2 ∅ ∅ a1
  have b2:l2 "size" = some (.int z):=xN el2 ∅
  haveI b3:l2 "best" = some .none:=az el2
  obtain ⟨n,H1,hof,p1,x1⟩:=wC hR hO z
  haveI hR1:=hR.pre p1
  rw [hO.ofSz] at x1
  obtain ⟨q3,hq3,⟨b,ys,ey,_,i2,i3,i4,i5,i6,i7⟩,i8⟩:=fE (g:=λH=>ax (.ref n) H=some ((bW r.p (look r.ss) z).map V.int)) (bd:=aY "page") (body:=jv) (λrem q=>IT H1 ri r z w (EW (look r.ss) none (bW r.p (look r.ss) z)) rem q/\H1<+:q.H) (λx rem q hI=>by
   obtain ⟨q',k1,k2,k3⟩:=BS hR1 hO x rem q hI.1
   exact ⟨q',k1,bY (aE (hI.2.trans k2) x1),k3,hI.2.trans k2⟩) _ ⟨l2,H1⟩ ⟨⟨none,bW r.p (look r.ss) z,rfl,λg hg=>by
    obtain ⟨h1,_⟩:=aaD.mp hg
    have:=(iF.mp h1).2
    cases hf:look r.ss g with
    | none=>rw [hf] at this;cases this
    | some v=>obtain ⟨s,hs,_⟩:=bi hf;exact ⟨s,hs⟩,rfl,λg e=>(by cases e),b3,b1,b2,aaj _⟩,aaj _⟩
  cases ys with
  | cons _ _=>cases ey
  | nil =>
  change b=_ at i2
  obtain ⟨l3,H3⟩:=q3
  dsimp only at i4 i5 i6 i7 i8
  have s3:n8 ⟨l2,H⟩= .ok .next ⟨l3,H3⟩:=by
   exists b1,b2,aS hR (f := "of_size") ⟨by decide,by decide,by decide⟩,hof,dg x1
   exact hq3
  have p3:H<+:H3:=p1.trans i7
  have hR3:=hR.pre p3
  unfold yY at kG
  rw [<- i2] at kG
  cases b with
  | some g =>
   obtain ⟨s,hs⟩:=i3 g rfl
   have i4':l3 "best" = some (.inst "Shelf" s.sh):=by rw [i4];simp [vY,hs]
   haveI hb:=i2.symm
   rcases AT hb with h | ⟨hgm,v,hv,hfv⟩
   ·cases h
   have hlk:look r.ss g=some (s.sz,s.bs):=by unfold look;rw [hs];rfl
   rw [hlk] at hv
   cases hv
   have hsz:s.sz=z:=by
    haveI:=(aaD.mp hgm).2
    unfold jE at this
    rw [hlk] at this
    simpa using this
   obtain ⟨k,hk⟩:=aaR.mp hfv
   haveI s4:jF ⟨l3,H3⟩= .ok .next ⟨l3,H3⟩:=by
    exists i4'
   obtain ⟨r',q',t1,t2,t3,t4,t5,t6,t7,t8⟩:=wE hR3 hO hs hsz hk i5 i4' i6
   refine kG ⟨s.bs,k,r',q'.H,by show look r.ss g=_;rw [hlk,hsz],hk,a9 (m:=gA) rfl (by rw [e0];exact ak s1 (ak s2 (ak s3 (ak s4 t1)))),t2,t3,t4,t5,(cM.pre p3).trans t6,λi hi=> .inl (t7▸hi),t8⟩
  | none =>
   have i4':l3 "best" = some .none:=i4
   have hfr:=FV hR3 hO hzx
   rw [hO.fresh] at hfr
   cases hp:zV r.p (look r.ss) with
   | none =>
    rw [hp] at hfr kG
    obtain ⟨H4,h4,p4⟩:=hfr
    refine kG ⟨H4,iC (m:=gA) (q:=⟨l3,H4⟩) rfl ?_,p3.trans p4⟩
    rw [e0]
    refine ak s1 (ak s2 (ak s3 (jn ?_)))
    exact bq (bq (g_get i4') (bq rfl rfl)) (it_t rfl (bx (bq (g_get i5) (bq (aS hR3 (f := "fresh") ⟨by decide,by decide,by decide⟩ _) (bq (bq (g_get i6) rfl) (ky h4))))))
   | some g =>
    rw [hp] at hfr kG
    obtain ⟨m,H4,h4,n1,n2,n3,n4,n5⟩:=hfr
    obtain ⟨q1,q2⟩:=qI hR hO hzx
    haveI O4:=Rm.Ok.put hR3 hO (s:=⟨g,m,m+2,z,List.replicate (r.len.fdiv z).toNat false⟩) n3 hzx (by simp;exact Int.max_eq_left (aa9 ∅ q1)) (by show H3.length<=m+2;exact id (bP 0x291c0010011 n1))
    haveI s4:jF ⟨l3,H3⟩= .ok .next ⟨upd l3 "best" (.inst "Shelf" m),H4⟩:=by
     exists i4',i5,i6,aS hR3 (f := "fresh") ⟨by decide,by decide,by decide⟩,h4
    obtain ⟨r',q',t1,t2,t3,t4,t5,t6,t7,t8⟩:=wE n4 O4 (g:=g) (mB r.ss ⟨g,m,m+2,z,List.replicate (r.len.fdiv z).toNat false⟩) rfl (oF (by exact dE 0x910f081019812 q1 (aaH _))) (l:=upd l3 "best" (.inst "Shelf" m)) (ah rfl ∅ i5) (by simp [upd]) (ah rfl ∅ i6)
    refine kG ⟨List.replicate (r.len.fdiv z).toNat false,0,r',q'.H,bM _ _ _,oF (by exact dE 0x910f081019812 q1 (aaH _)),a9 (m:=gA) rfl (by rw [e0];exact ak s1 (ak s2 (ak s3 (ak s4 t1)))),t2,t3,(Rm.Sm.ss r _).trans t4,?_,?_,λi hi=> ?_,t8⟩
    ·rw [t5];dsimp only;rw [DK]
    ·exact ((cM.pre p3).trans (n5.mono λi hi _=>by rw [aag.mp hi];exact DX ri r)).trans' t6 (Bn ri r _ (aam p3.length_le n1) (aam p3.length_le (by show H3.length<=m+2;exact id (bP 0x291c0010011 n1))))
    ·rw [t7] at hi
     exact Bn ri r _ (aam p3.length_le n1) (aam p3.length_le (by show H3.length<=m+2;exact id (bP 0x291c0010011 n1))) i hi
end
theorem Jy {q b r:Int} (h0:0<=r) (h1:r<b):(q*b+r).fdiv b=q/\(q*b+r).fmod b=r:=by
 haveI hb:b≠0:=by exact λx9=>qw 0x9096091a11091009813 h0 h1 x9
 rw [Int.fdiv_eq_ediv_of_nonneg _ (by exact qw 0x10981091009812 h0 h1),Int.fmod_eq_emod_of_nonneg _ (by exact qw 0x10981091009812 h0 h1),Int.add_comm,Int.add_mul_ediv_right _ _ hb,Int.ediv_eq_zero_of_lt h0 h1,Int.add_mul_emod_self_right,Int.emod_eq_of_lt h0 h1]
 simp
theorem Je {q b:Int} (h1:0<b):(q*b).fdiv b=q/\(q*b).fmod b=0:=by
 haveI:=Jy (q:=q) (b:=b) (r:=0) ∅ h1
 simpa using this
theorem tF {bs:List Bool} {k:Nat} (h:bs[k]? = some true):nQ bs k=true:=by
 haveI:=(aab.mp h).1
 unfold nQ
 rw [if_pos ⟨by exact bO 0xf0980,by exact bP 0x1f0f910111 this⟩]
 simp [h]
noncomputable def dY (F:Vw) (l:List Int):Vw:=λx=>if x∈l then none else F x
noncomputable def Fg (p:Int) (F:Vw) (g z:Int) (bs:List Bool):Vw :=
 if bs.count true=0/\1<((lX p (cL F g (some (z,bs)))).filter (jE (cL F g (some (z,bs))) z)).length then cL (cL F g (some (z,bs))) g none else cL F g (some (z,bs))
theorem Bm (ri:Nat) (r:Rm) (g:Int):∀i∈Rm.own ri { r with ss:=gY r.ss g },i∈r.own ri:=λi hi=>by
 unfold Rm.own at hi ⊢
 have sub:∀s∈gY r.ss g,s∈r.ss:=λs hs=>(aaD.mp hs).1
 simp at hi ⊢
 rcases hi with h | h | h | ⟨s,hs,rfl⟩ | ⟨s,hs,rfl⟩
 ·exact .inl h
 ·exact .inr (.inl h)
 ·exact .inr (.inr (.inl h))
 ·exact .inr (.inr (.inr (.inl ⟨s,sub s hs,rfl⟩)))
 ·exact .inr (.inr (.inr (.inr ⟨s,sub s hs,rfl⟩)))
section
variable {H:Hp} {ri:Nat} {r:Rm} (hR:aF H ri r) (hO:r.Ok)
include hR hO
theorem xQ {g z:Int} {s:bD} (hf:dz r.ss g=some s) (hz:s.sz=z) {k:Nat} (hk:s.bs[k]? = some true):hX [.inst "Room" ri,.int (g*r.len+k*z)] H= .ok (.tup [.inst "Shelf" s.sh,.int k]) H:=by
 obtain ⟨hs,e⟩:=aJ hf
 subst hz e
 haveI hl:=(aab.mp hk).1
 have hsz:=hO.szpos hs
 haveI hlen:=hO.len
 obtain ⟨u1,u2,u3,u4⟩:=nv hO hs (k:=k) (by exact bO 0xf0980) (by exact bP 0x1f0f910111 hl) (j:=0) ∅ (by exact cI 0x99019811 hsz.1)
 obtain ⟨d1,d2⟩:=Jy (q:=s.pg) (b:=r.len) (r:=k*s.sz) (by exact u4) (by exact qw 0x1091090c911 u3)
 obtain ⟨d3,d4⟩:=Je (q:=k) (b:=s.sz) (by exact cI 0x99019811 hsz.1)
 have hS:=hR.shelf s hs
 have n1:r.len≠0:=by exact λx9=>cI 0x9096090a1019812 hlen.1 x9
 have n2:s.sz≠0:=by exact λx9=>cI 0x9096090a1019812 hsz.1 x9
 haveI hh:=GD hS (hO.bslen hs) k
 rw [tF hk] at hh
 obtain ⟨l0,e0,a1,a2⟩:∃l0,aX ["self", "place"] [.inst "Room" ri,.int (s.pg*r.len+k*s.sz)]=l0/\l0 "self" = some (.inst "Room" ri)/\l0 "place" = some (.int (s.pg*r.len+k*s.sz)):=⟨_,rfl,rfl,rfl⟩
 haveI hsh:∀l,db "Shelf" "has" (.inst "Shelf" s.sh) ⟨l,H⟩= .ok () ⟨l,H⟩:=λl=>dy hS.ob (Em _ _ _)
 refine a9 (m:=pB) (q:=⟨upd (upd (upd l0 "page" (.int s.pg)) "shelf" (.inst "Shelf" s.sh)) "step" (.int (k*s.sz)),H⟩) rfl ?_
 rw [e0]
 have rs:=λl=>(pN hR hs l).1
 refine ak (q':=⟨upd l0 "page" (.int s.pg),H⟩) (by exists a1,a2,fK hR,Au hR,iD n1 d1) ?_
 have b1:upd l0 "page" (.int s.pg) "self" = some (.inst "Room" ri):=ah rfl ∅ a1
 haveI hin:=λl=>Eg hR s.pg l
 rw [hf] at hin
 refine ak (q':=⟨upd l0 "page" (.int s.pg),H⟩) (by exists b1,bf hR,hin) ?_
 refine ak (q':=⟨upd (upd l0 "page" (.int s.pg)) "shelf" (.inst "Shelf" s.sh),H⟩) (by exists b1,bf hR,cK hR hf) ?_
 haveI c1:upd (upd l0 "page" (.int s.pg)) "shelf" (.inst "Shelf" s.sh) "self" = some (.inst "Room" ri):=ah rfl ∅ a1
 haveI c2:upd (upd l0 "page" (.int s.pg)) "shelf" (.inst "Shelf" s.sh) "place" = some (.int (s.pg*r.len+k*s.sz)):=ah rfl ∅ a2
 refine ak (q':=⟨upd (upd (upd l0 "page" (.int s.pg)) "shelf" (.inst "Shelf" s.sh)) "step" (.int (k*s.sz)),H⟩) (by exists c1,c2,fK hR,Au hR,c9 n1 d2) ?_
 obtain ⟨l3,el3⟩:∃l3,upd (upd (upd l0 "page" (.int s.pg)) "shelf" (.inst "Shelf" s.sh)) "step" (.int (k*s.sz))=l3:=⟨_,rfl⟩
 rw [el3]
 have g1:l3 "shelf" = some (.inst "Shelf" s.sh):=xN el3 ∅
 have g2:l3 "step" = some (.int (k*s.sz)):=az el3
 refine ak (q':=⟨l3,H⟩) ?_ ?_
 ·exists g1,g2,rs,c9 n2 d4,pM 0 0,hsh,iD n2 d3,hh
 ·exists g1,g2,rs,iD n2 d3
theorem BL {g z:Int} {s:bD} (hf:dz r.ss g=some s) (hz:s.sz=z) {k:Nat} (hk:s.bs[k]? = some true) {j:Int} (h0:0<=j) (h1:j<z):fh [.inst "Room" ri,.int (g*r.len+k*z),.int j] H= .ok (.int (g*r.len+k*z+j)) H:=by
 haveI hv:=xQ hR hO hf hz hk
 haveI rs:=λl=>(pN hR (aJ hf).1 l).1
 rw [hz] at rs
 obtain ⟨l0,e0,a1,a2,a3⟩:∃l0,aX ["self", "place", "step"] [.inst "Room" ri,.int (g*r.len+k*z),.int j]=l0/\l0 "self" = some (.inst "Room" ri)/\l0 "place" = some (.int (g*r.len+k*z))/\l0 "step" = some (.int j):=⟨_,rfl,rfl,rfl,rfl⟩
 refine bH (upd l0 "shelf" (.inst "Shelf" s.sh)) λl1 el1=> ?_
 haveI b1:l1 "shelf" = some (.inst "Shelf" s.sh):=az el1
 haveI b2:l1 "place" = some (.int (g*r.len+k*z)):=ah el1 ∅ a2
 have b3:l1 "step" = some (.int j):=ah el1 ∅ a3
 refine a9 (m:=mE) (q:=⟨l1,H⟩) rfl ?_
 rw [e0]
 haveI it:∀q,aW (.tup [.inst "Shelf" s.sh,.int k]) (.int 0) q= .ok (.inst "Shelf" s.sh) q:=λq=>rfl
 refine ak (q':=⟨l1,H⟩) (by exists a1,a2,aS hR (f := "found") ⟨by decide,by decide,by decide⟩,hv,it,el1) ?_
 refine ak (q':=⟨l1,H⟩) ?_ (by exists b2,b3)
 haveI d0:decide ((0:Int)<=j)=true:=decide_eq_true h0
 haveI d1:decide (j<z)=true:=decide_eq_true h1
 exists b3,d0,b1,rs,d1
theorem HP {g z:Int} {s:bD} (hf:dz r.ss g=some s) (hz:s.sz=z) {k:Nat} (hk:s.bs[k]? = some true) {j:Int} (h0:0<=j) (h1:j<z) :
  ∃v,gq [.inst "Room" ri,.int (g*r.len+k*z),.int j] H= .ok (.int v) H/\r.cs[(g*r.len+k*z+j).toNat]? = some v:=by
 haveI hc:=BL hR hO hf hz hk h0 h1
 obtain ⟨hs,e⟩:=aJ hf
 haveI hl:=(aab.mp hk).1
 obtain ⟨u1,u2,_⟩:=nv hO hs (k:=k) (by exact bO 0xf0980) (by exact bP 0x1f0f910111 hl) h0 (by rw [hz];exact h1)
 rw [e,hz] at u1 u2
 obtain ⟨v,v1,v2⟩:=Br hR hO u1 u2
 refine ⟨v,?_,v1⟩
 obtain ⟨l0,e0,a1,a2,a3⟩:∃l0,aX ["self", "place", "step"] [.inst "Room" ri,.int (g*r.len+k*z),.int j]=l0/\l0 "self" = some (.inst "Room" ri)/\l0 "place" = some (.int (g*r.len+k*z))/\l0 "step" = some (.int j):=⟨_,rfl,rfl,rfl,rfl⟩
 refine a9 (m:=rB) (q:=⟨l0,H⟩) rfl ?_
 rw [e0]
 exists a1,a2,a3,mM hR,aS hR (f := "cell") ⟨by decide,by decide,by decide⟩,hc,v2
theorem FZ {g z:Int} {s:bD} (hf:dz r.ss g=some s) (hz:s.sz=z) {k:Nat} (hk:s.bs[k]? = some true) {j:Int} (h0:0<=j) (h1:j<z) (x:Int) :
  ∃H',A5 (de [.inst "Room" ri,.int (g*r.len+k*z),.int j,.int x] H= .ok .none H') (aF H' ri { r with cs:=r.cs.set (g*r.len+k*z+j).toNat x }) (Rm.Ok { r with cs:=r.cs.set (g*r.len+k*z+j).toNat x }) (cM (r.own ri) H H') ((r.cs.set (g*r.len+k*z+j).toNat x)[(g*r.len+k*z+j).toNat]? = some x):=by
 haveI hc:=BL hR hO hf hz hk h0 h1
 obtain ⟨hs,e⟩:=aJ hf
 haveI hl:=(aab.mp hk).1
 obtain ⟨u1,u2,_⟩:=nv hO hs (k:=k) (by exact bO 0xf0980) (by exact bP 0x1f0f910111 hl) h0 (by rw [hz];exact h1)
 rw [e,hz] at u1 u2
 haveI hst:=xt hR hO (v:=x) u1 u2
 refine ⟨H.set r.c (.list ((r.cs.set (g*r.len+k*z+j).toNat x).map V.int)),?_,aF.setCs hR hO _,Rm.Ok.setCs hR hO (by simp),cM.set (DW ri r),aaB (by exact fi [_,_] [_,_,_] 0x11210cc1fa10f210cc912 u2 (aai u1))⟩
 obtain ⟨l0,e0,a1,a2,a3,a4⟩:∃l0,aX ["self", "place", "step", "number"] [.inst "Room" ri,.int (g*r.len+k*z),.int j,.int x]=l0/\l0 "self" = some (.inst "Room" ri)/\l0 "place" = some (.int (g*r.len+k*z))/\l0 "step" = some (.int j)/\l0 "number" = some (.int x):=⟨_,rfl,rfl,rfl,rfl,rfl⟩
 refine nk (m:=kH) (q:=⟨l0,_⟩) rfl ?_
 rw [e0]
 exists a1,a2,a3,a4,mM hR,aS hR (f := "cell") ⟨by decide,by decide,by decide⟩,hc,hst
theorem Ei {g:Int} {s:bD} (hf:dz r.ss g=some s) (l:bk):fQ (.ref r.d) ⟨l,H⟩= .ok false ⟨l,H⟩/\ly (.ref r.d) (.int g) ⟨l,H⟩= .ok (.inst "Shelf" s.sh) ⟨l,H.set r.d (.dict (r9 g (r.ss.map bD.ent)))⟩:=by
 haveI:=hO.few
 haveI h1:(r.ss.map bD.ent).length<=1000000:=by simp;exact id (bO 0xf4240a00000028a0011 this)
 exact ⟨by rw [xr,hR.racks],by unfold ly;dsimp only;rw [hR.racks];dsimp only;rw [if_pos h1,iz,hf];rfl⟩
theorem zu {g z:Int} {s:bD} (hf:dz r.ss g=some s) (hz:s.sz=z) {k:Nat} (hk:s.bs[k]? = some true):∃r' H',A8 (dS [.inst "Room" ri,.int (g*r.len+k*z)] H= .ok .none H') (aF H' ri r') r'.Ok (r.Sm r') (look r'.ss=Fg r.p (look r.ss) g z (s.bs.set k false)) (cM (r.own ri) H H') (∀i∈r'.own ri,i∈r.own ri) (r'.cs=r.cs):=by
 refine nK λG kG=> ?_
 haveI hv:=xQ hR hO hf hz hk
 obtain ⟨hs,e⟩:=aJ hf
 subst hz e
 obtain ⟨l0,e0,a1,a2⟩:∃l0,aX ["self", "place"] [.inst "Room" ri,.int (s.pg*r.len+k*s.sz)]=l0/\l0 "self" = some (.inst "Room" ri)/\l0 "place" = some (.int (s.pg*r.len+k*s.sz)):=⟨_,rfl,rfl,rfl⟩
 have hS:=hR.shelf s hs
 haveI hg:=HL hS (hO.bslen hs) k
 rw [if_pos (tF hk)] at hg
 have R1:=aF.setBs hR hO hs (s.bs.set k false)
 have O1:=Rm.Ok.setBs hR hO hs (bs:=s.bs.set k false) (by simp)
 have L1:=oM hf (s.bs.set k false)
 refine bH ({ r with ss:=setBs r.ss s.pg (s.bs.set k false) }) λr1 er1=> ?_
 have ess:r1.ss=setBs r.ss s.pg (s.bs.set k false):=by rw [<- er1]
 haveI hown:r1.own ri=r.own ri:=by rw [<- er1];unfold Rm.own;dsimp only;rw [uu,nu]
 have hsm:r.Sm r1:=by rw [<- er1];exact Rm.Sm.ss r _
 have hcs:r1.cs=r.cs:=by rw [<- er1]
 rw [er1] at R1 O1
 rw [<- ess] at L1
 refine bH (H.set s.t (.list ((s.bs.set k false).map V.bool))) λH1 e1=> ?_
 haveI C1:cM (r.own ri) H H1:=by rw [<- e1];exact cM.set (DY ri hs)
 rw [show (H.set s.t (.list ((s.bs.set ((k:Nat):Int).toNat false).map V.bool)))=H1 by rw [Int.toNat_natCast];exact e1] at hg
 rw [e1] at R1
 obtain ⟨s1,hs1,z1,b1⟩:∃s1,dz r1.ss s.pg=some s1/\s1.sz=s.sz/\s1.bs=s.bs.set k false:=by
  obtain ⟨s1,h1,h2,h3⟩:=bi (ss:=r1.ss) (g:=s.pg) (v:=(s.sz,s.bs.set k false)) (by rw [L1,bM])
  exact ⟨s1,h1,h2,h3⟩
 have sh1:s1.sh=s.sh:=by
  haveI:=oH (λa=>if a.pg=s.pg then { a with bs:=s.bs.set k false } else a) (λa=>by split<;>rfl) r.ss s.pg
  rw [ess] at hs1
  unfold setBs at hs1
  rw [this,hf] at hs1
  simp at hs1
  rw [<- hs1]
 obtain ⟨hm1,hp1⟩:=aJ hs1
 obtain ⟨n,H2,he,p2,x2⟩:=sX R1 O1
 rw [O1.empt,L1] at x2
 have hps:r1.p=r.p:=hsm.p
 refine bH (cL (look r.ss) s.pg (some (s.sz,s.bs.set k false))) λF1 eF1=> ?_
 rw [hps,eF1] at x2
 rw [eF1] at L1
 haveI it0:∀q,aW (.tup [.inst "Shelf" s.sh,.int k]) (.int 0) q= .ok (.inst "Shelf" s.sh) q:=λq=>rfl
 haveI it1:∀q,aW (.tup [.inst "Shelf" s.sh,.int k]) (.int 1) q= .ok (.int k) q:=λq=>rfl
 refine bH (upd (upd l0 "both" (.tup [.inst "Shelf" s.sh,.int k])) "shelf" (.inst "Shelf" s.sh)) λl2 el2=> ?_
 have c1:l2 "self" = some (.inst "Room" ri):=lp el2 ∅ ∅ a1
 haveI c2:l2 "both" = some (.tup [.inst "Shelf" s.sh,.int k]):=xN el2 ∅
 have c3:l2 "shelf" = some (.inst "Shelf" s.sh):=az el2
 haveI t1:iU ⟨l0,H⟩= .ok .next ⟨upd l0 "both" (.tup [.inst "Shelf" s.sh,.int k]),H⟩:=by
  exists a1,a2,aS hR (f := "found") ⟨by decide,by decide,by decide⟩,hv
 haveI t2:iV ⟨upd l0 "both" (.tup [.inst "Shelf" s.sh,.int k]),H⟩= .ok .next ⟨l2,H⟩:=by
  exists it0,el2
 haveI mg:∀l,db "Shelf" "give" (.inst "Shelf" s.sh) ⟨l,H⟩= .ok () ⟨l,H⟩:=λl=>dy hS.ob rfl
 haveI t3:iW ⟨l2,H⟩= .ok .next ⟨l2,H1⟩:=by
  exists c2,c3,mg,it1,hg
 haveI hc:∃H',ff ⟨l2,H1⟩= .ok (.ref H'.length) ⟨l2,H'++[.list ((lX r.p F1).filterMap λg=>if jE F1 s.sz g then some (V.int g) else none)]⟩/\H2<+:H':=by
  unfold ff
  refine dQ (n:=n) (ks:=lX r.p F1) ?_ x2 ?_ (λg=>if jE F1 s.sz g then some (V.int g) else none) λg hg Hx hp=> ?_
  ·exists c1,aS R1 (f := "empty_pages") ⟨by decide,by decide,by decide⟩,he
   exact dg x2
  ·haveI h1:(lX r.p F1).length<=(cg r.p).length:=aam (aa8 _ _) (aa8 _ _)
   have h2:=hO.p
   unfold cg at h1;simp at h1;exact id (kK 0xf4240a0001fa11001000028a0813 h2.2 h1 (aai (cI 0x98019811 h2.1)))
  ·haveI hgk:=(iF.mp (aaD.mp hg).1).2
   obtain ⟨v,hv⟩:=aaR.mp hgk
   obtain ⟨s',hs',z',_⟩:=bi (ss:=r1.ss) (v:=v) (by rw [L1];exact hv)
   have hRx:=R1.pre (p2.trans hp)
   have rs1:=λl=>(pN hRx (aJ hs').1 l).1
   have rs2:=λl=>(pN hRx hm1 l).1
   rw [sh1,z1] at rs2
   have b1:upd (gD ["shelf", "self"] l2) "page" (.int g) "self" = some (.inst "Room" ri):=fZ ∅ ∅ c1
   have b2:upd (gD ["shelf", "self"] l2) "page" (.int g) "shelf" = some (.inst "Shelf" s.sh):=fZ ∅ ∅ c3
   refine ⟨Hx,?_,aaj _⟩
   haveI hz':jE F1 s.sz g=decide (s'.sz=s.sz):=by unfold jE;rw [hv,z']
   rw [hz']
   cases hb:decide (s'.sz=s.sz) with
   | true=>exact eJ (H2:=Hx) (by exists b1,b2,bf hRx,cK hRx hs',rs1,rs2,hb) (g_get (j5 _ _ _))
   | false=>exact pU (by exists b1,b2,bf hRx,cK hRx hs',rs1,rs2,hb)
 obtain ⟨H3,hc,p3⟩:=hc
 rw [dW] at hc
 refine bH ((lX r.p F1).filter (jE F1 s.sz)) λot eot=> ?_
 rw [eot] at hc
 haveI t4:iX ⟨l2,H1⟩= .ok .next ⟨upd l2 "others" (.ref H3.length),H3++[.list (ot.map V.int)]⟩:=by exists hc
 refine bH (upd l2 "others" (.ref H3.length)) λl4 el4=> ?_
 haveI d1:l4 "self" = some (.inst "Room" ri):=ah el4 ∅ c1
 have d2:l4 "shelf" = some (.inst "Shelf" s.sh):=ah el4 ∅ c3
 have d3:l4 "others" = some (.ref H3.length):=az el4
 refine bH (H3++[O.list (ot.map V.int)]) λH4 e4=> ?_
 rw [el4,e4] at t4
 have p4:H1<+:H4:=(p2.trans p3).trans ⟨_,e4⟩
 have R4:=R1.pre p4
 obtain ⟨mo,co⟩:=xw R4 O1 hm1 l4
 rw [sh1,b1] at co
 rw [sh1] at mo
 refine bH (H4++[O.list (List.replicate ((s.bs.set k false).count true) (V.bool true))]) λH5 e5=> ?_
 rw [e5] at co
 have p5:H4<+:H5:=⟨_,e5⟩
 have R5:=R4.pre p5
 haveI hlo:ot.length<=40:=by
  haveI h1:ot.length<=(cg r.p).length:=by rw [<- eot];exact aam (aa8 _ _) (aam (aa8 _ _) (aa8 _ _))
  have h2:=hO.p
  unfold cg at h1;simp at h1;exact id (kK 0x28a0001fa11001000028a0813 h2.2 h1 (aai (cI 0x98019811 h2.1)))
 have hln:dw [.ref H3.length] ⟨l4,H5⟩= .ok (.int ot.length) ⟨l4,H5⟩:=by
  haveI:H5[H3.length]? = some (.list (ot.map V.int)):=aE p5 (by rw [<- e4];simp)
  rw [cj this (by simp;exact id (bO 0xf4240a01000028a0011 hlo))];simp
 haveI rp:=λl=>(pN R5 hm1 l).2
 rw [sh1,hp1] at rp
 obtain ⟨k1,k2⟩:=Ei R5 O1 hs1 l4
 have hw:Rm.own ri r1=Rm.own ri r:=hown
 have Cf:cM (r.own ri) H H5:=C1.trans (cM.pre (p4.trans p5))
 have dc:decide ((((s.bs.set k false).count true:Nat):Int)=0)=decide ((s.bs.set k false).count true=0):=decide_eq_decide.mpr DT
 have dl:decide (((ot.length:Nat):Int)>1)=decide (1<ot.length):=decide_eq_decide.mpr (Ds (b:=1))
 have main:∀q,iY ⟨l4,H4⟩= .ok .next q->dS [.inst "Room" ri,.int (s.pg*r.len+k*s.sz)] H= .ok .none q.H:=λq hq =>
  nk (m:=jT) (q:=q) rfl (by rw [e0];exact ak t1 (ak t2 (ak t3 (ak t4 hq))))
 unfold Fg at kG
 rw [eF1,eot] at kG
 by_cases h1:(s.bs.set k false).count true=0
 ·by_cases h2:1<ot.length
  ·rw [if_pos ⟨h1,h2⟩] at kG
   refine kG ⟨{ r1 with ss:=gY r1.ss s.pg },_,main ⟨l4,_⟩ ?_,aF.del R5 O1 s.pg,Rm.Ok.del R5 O1 s.pg,hsm.trans (Rm.Sm.ss r1 _),?_,Cf.trans (cM.set (by rw [<- hw];exact DX ri r1)),λi hi=>hw▸Bm ri r1 s.pg i hi,hcs⟩
   ·exists d1,d2,d3,mo,co,dc,decide_eq_true h1,hln,dl,decide_eq_true h2,bf R5,k1,rp,k2
   ·show look (gY r1.ss s.pg)=_
    rw [tR,L1]
  ·rw [if_neg λh=>h2 h.2] at kG
   refine kG ⟨r1,H5,main ⟨l4,H5⟩ ?_,R5,O1,hsm,L1,Cf,λi hi=>hw▸hi,hcs⟩
   exists d1,d2,d3,mo,co,dc,decide_eq_true h1,hln,dl,decide_eq_false h2
 ·rw [if_neg λh=>h1 h.1] at kG
  refine kG ⟨r1,H5,main ⟨l4,H5⟩ ?_,R5,O1,hsm,L1,Cf,λi hi=>hw▸hi,hcs⟩
  exists d1,d2,d3,mo,co,dc,decide_eq_false h1
end
theorem pq (p:Int) (hp:p<=40) (F:Vw):(dJ p F).length<=40:=by
 haveI h1:(dJ p F).length<=(cg p).length:=aa8 _ _
 unfold cg at h1;simp at h1;exact aam h1 (Int.toNat_le.mpr hp)
theorem ux (p:Int) (hp:p<=40) (F:Vw) (z:Int):(bW p F z).length<=40:=aam (aa8 _ _) (pq p hp F)
theorem yl (p:Int) (hp:p<=40) (F:Vw):(lX p F).length<=40:=aam (aa8 _ _) (pq p hp F)
theorem C7 (p:Int) (hp:p<=40) (F:Vw):(tq p F).length<=40:=by
 haveI h1:(tq p F).length<=(cg p).length:=aa8 _ _
 unfold cg at h1;simp at h1;exact aam h1 (Int.toNat_le.mpr hp)
theorem tN (p:Int) (F:Vw):(dJ p F).Nodup:=mD ((fu p).filter _)
theorem jS {p:Int} {F:Vw} {g:Int} (h:g∈dJ p F):∃v,F g=some v:=aaR.mp (iF.mp h).2
theorem un (F:Vw):dY F []=F:=by funext x;simp [dY]
theorem Cs (F:Vw) (g:Int) (l:List Int):dY (cL F g none) l=dY F (g::l):=by
 funext x
 unfold dY
 by_cases h1:x∈l
 ·simp [h1]
 ·by_cases h2:x=g<;>simp [h1,h2,cL]
def GT (H:Hp) (ri:Nat) (r:Rm) (Fz:Vw) (ks:List Int) (q:S):Prop:= ∃r',aF q.H ri r'/\r'.Ok/\r.Sm r'/\dY (look r'.ss) ks=Fz/\ks.Nodup/\(∀g∈ks,∃v,look r'.ss g=some v)/\cM (r.own ri) H q.H/\(∀i∈r'.own ri,i∈r.own ri)/\r'.cs=r.cs
theorem GT.pop {H:Hp} {ri:Nat} {r:Rm} {Fz:Vw} {g:Int} {ks:List Int} {l:bk} {Hq:Hp} (h:GT H ri r Fz (g::ks) ⟨l,Hq⟩):∃v H',A5 (fQ (.ref r.d) ⟨l,Hq⟩= .ok false ⟨l,Hq⟩) (ly (.ref r.d) (.int g) ⟨l,Hq⟩= .ok v ⟨l,H'⟩) (∀l',GT H ri r Fz ks ⟨l',H'⟩) (aA "racks" (.inst "Room" ri) ⟨l,Hq⟩= .ok (.ref r.d) ⟨l,Hq⟩) (cM [r.d] Hq H'):=by
 obtain ⟨r',h1,h2,h3,h4,h5,h6,h7,h8,h9⟩:=h
 dsimp only at h1 h7
 obtain ⟨v,hv⟩:=h6 g (.head _)
 obtain ⟨s,hs,_⟩:=bi hv
 obtain ⟨k1,k2⟩:=Ei h1 h2 hs l
 rw [h3.d] at k1 k2
 rw [aaP] at h5
 refine ⟨_,_,k1,k2,λl'=> ?_,by rw [bf h1,h3.d],cM.set (by simp)⟩
 rw [<- h3.d]
 refine ⟨{ r' with ss:=gY r'.ss g },aF.del h1 h2 g,Rm.Ok.del h1 h2 g,h3.trans (Rm.Sm.ss r' _),?_,h5.2,λx hx=> ?_,h7.trans (cM.set (by rw [h3.d];exact DX ri r)),λi hi=>h8 i (Bm ri r' g i hi),h9⟩
 ·rw [tR,Cs];exact h4
 ·obtain ⟨w,hw⟩:=h6 x (.tail _ hx)
  refine ⟨w,?_⟩
  haveI hne:x≠g:=λe=>h5.1 (e▸hx)
  rw [tR,dm _ _ hne]
  exact hw
noncomputable def c8 (len:Int) (F:Vw) (g:Int):List (Int×Int):=match F g with | some v=>(bX 0 v.2).map λk=>(g*len+k*v.1,v.1) | none=>[]
noncomputable def ck (p len:Int) (F:Vw):List (Int×Int):=(dJ p F).flatMap (c8 len F)
noncomputable def EX (F:Vw) (g:Int):Int:=match F g with | some v=>((gw 0 v.2).length:Nat) | none=>0
theorem f9:∀(bs:List Bool) (a:Nat) (k:Int),k∈bX a bs-> ∃j:Nat,k=((a+j:Nat):Int)/\bs[j]? = some true
 | [],_,_,h=>by cases h
 | true::r,a,k,h=>by
  rcases aah.mp (show k∈(a:Int)::bX (a+1) r from h) with rfl | h
  ·exact ⟨0,by simp,rfl⟩
  ·obtain ⟨j,h1,h2⟩:=f9 r (a+1) k h
   exact ⟨j+1,by rw [h1];congr 1;exact id (aaf (bP 0x191c0c1190cc00) (bP 0x1190cc191c0c00)),by simpa using h2⟩
 | false::r,a,k,h=>by
  obtain ⟨j,h1,h2⟩:=f9 r (a+1) k h
  exact ⟨j+1,by rw [h1];congr 1;exact id (aaf (bP 0x191c0c1190cc00) (bP 0x1190cc191c0c00)),by simpa using h2⟩
theorem iu:∀(bs:List Bool) (a:Int),(bX a bs).length=bs.count true
 | [],_=>rfl
 | true::r,a=>by rw [List.count_cons_self,<- iu r (a+1)];rfl
 | false::r,a=>by rw [abb ∅,<- iu r (a+1)];rfl
section
variable {H:Hp} {ri:Nat} {r:Rm} (hR:aF H ri r) (hO:r.Ok)
include hR hO
theorem HR:∃r' H',A8 (mx [.inst "Room" ri] H= .ok (.int (lX r.p (look r.ss)).length) H') (aF H' ri r') r'.Ok (r.Sm r') (look r'.ss=dY (look r.ss) (lX r.p (look r.ss))) (cM (r.own ri) H H') (∀i∈r'.own ri,i∈r.own ri) (r'.cs=r.cs):=by
 obtain ⟨l0,e0,a1⟩:∃l0,aX ["self"] [.inst "Room" ri]=l0/\l0 "self" = some (.inst "Room" ri):=⟨_,rfl,rfl⟩
 obtain ⟨n,H1,he,p1,x1⟩:=sX hR hO
 rw [hO.empt] at x1
 have R1:=hR.pre p1
 obtain ⟨em,eem⟩:∃em,lX r.p (look r.ss)=em:=⟨_,rfl⟩
 rw [eem] at x1
 haveI t1:nY ⟨l0,H⟩= .ok .next ⟨upd l0 "pages" (.ref n),H1⟩:=by
  exists a1,aS hR (f := "empty_pages") ⟨by decide,by decide,by decide⟩,he
 obtain ⟨l1,el1⟩:∃l1,upd l0 "pages" (.ref n)=l1:=⟨_,rfl⟩
 rw [el1] at t1
 haveI b1:l1 "self" = some (.inst "Room" ri):=ah el1 ∅ a1
 have b2:l1 "pages" = some (.ref n):=az el1
 haveI hnd:n≠r.d:=λe=>by rw [e,R1.racks] at x1;cases x1
 obtain ⟨q',hq,i1,ks,ek,i2,i3,i4⟩:=fE (g:=λH=>ax (.ref n) H=some (em.map V.int)) (bd:=aY "page") (body:=nH)
  (λrem q=>q.l "self" = some (.inst "Room" ri)/\ ∃ks:List Int,rem=ks.map V.int/\GT H1 ri r (dY (look r.ss) em) ks q/\q.l "pages" = some (.ref n)/\q.H[n]? = some (.list (em.map V.int))) (λx rem q hI=>by
   obtain ⟨h1,ks,e,h2,h3,h4⟩:=hI
   obtain ⟨l,Hq⟩:=q
   dsimp only at h1 h3 h4
   cases ks with
   | nil=>simp at e
   | cons g ks =>
    obtain ⟨rfl,rfl⟩:x= .int g/\rem=ks.map V.int:=by simpa using e
    haveI h2':GT H1 ri r (dY (look r.ss) em) (g::ks) ⟨upd l "page" (.int g),Hq⟩:=h2
    obtain ⟨v,H',k1,k2,k3,k4,k5⟩:=h2'.pop
    have c1:upd l "page" (.int g) "self" = some (.inst "Room" ri):=ah rfl ∅ h1
    have h4':=k5.get h4 (by simpa using hnd)
    refine ⟨⟨upd l "page" (.int g),H'⟩,?_,bY h4',c1,ks,rfl,k3 _,ah rfl ∅ h3,h4'⟩
    exists c1,k4,k1,k2) _ ⟨l1,H1⟩ ⟨b1,em,rfl,⟨r,R1,hO,Rm.Sm.rfl r,rfl,eem▸(tN _ _).filter _,λg hg=>jS (aaD.mp (eem▸hg:g∈lX r.p (look r.ss))).1,cM.refl _ _,λi hi=>hi,rfl⟩,b2,x1⟩
 cases ks with
 | cons _ _=>simp at ek
 | nil =>
 obtain ⟨r',h1,h2,h3,h4,_,_,h7,h8,h9⟩:=i2
 rw [un] at h4
 haveI hlen:em.length<1000000:=by
  haveI:=yl r.p hO.p.2 (look r.ss)
  rw [eem] at this;exact id (bO 0xf4240a01000028a0011 this)
 rw [eem]
 refine ⟨r',q'.H,a9 (m:=rC) (q:=q') rfl ?_,h1,h2,h3,h4,(cM.pre p1).trans h7,h8,h9⟩
 rw [e0]
 refine ak t1 (ak (q':=q') ?_ ?_)
 ·exact bq (bq (g_get b2) (dg x1)) hq
 ·obtain ⟨l',H'⟩:=q'
  dsimp only at i3 i4
  haveI:=cj (l:=l') i4 (by simpa using hlen)
  rw [aak] at this
  exists i3,this
theorem Eu {s:bD} {g:Int} (hf:dz r.ss g=some s) {l:bk} (a1:l "self" = some (.inst "Room" ri)) (a2:l "shelf" = some (.inst "Shelf" s.sh)) :
  ∃H',eQ ⟨l,H⟩= .ok (.ref H'.length) ⟨l,H'++[.list ((c8 r.len (look r.ss) g).map aO)]⟩/\H<+:H':=by
 obtain ⟨hm,e⟩:=aJ hf
 subst e
 have hS:=hR.shelf s hm
 have hb:=hO.bslen hm
 haveI hg:=EE hS hb
 haveI mg:∀l,db "Shelf" "gone" (.inst "Shelf" s.sh) ⟨l,H⟩= .ok () ⟨l,H⟩:=λl=>dy hS.ob rfl
 have x1:(H++[O.list ((bX 0 s.bs).map V.int)])[H.length]? = some (.list ((bX 0 s.bs).map V.int)):=by simp
 haveI hc:∃H',eQ ⟨l,H⟩= .ok (.ref H'.length) ⟨l,H'++[.list ((bX 0 s.bs).filterMap λk=>some (aO (s.pg*r.len+k*s.sz,s.sz)))]⟩/\H++[O.list ((bX 0 s.bs).map V.int)]<+:H':=by
  unfold eQ
  refine dQ (n:=H.length) (ks:=bX 0 s.bs) ?_ x1 ?_ (λk=>some (aO (s.pg*r.len+k*s.sz,s.sz))) λk hk Hx hp=> ?_
  ·exists a2,mg,hg
   exact dg x1
  ·rw [iu]
   haveI:s.bs.count true<=s.bs.length:=List.count_le_length
   exact id (bP 0xf4240a1001010003e8a0012 hb this)
  ·have hRx:=hR.pre ((aaz _ _).trans hp)
   obtain ⟨j,rfl,hj⟩:=f9 s.bs 0 k hk
   haveI hjl:=(aab.mp hj).1
   have hpg:=hO.pg s hm
   haveI hpp:=hO.p
   haveI vb:=sW hRx (hRx.shelf s hm) ((0+j:Nat):Int) ⟨hpg.1,by exact qw 0x3e8a09000028a18110912 hpg.2 hpp.2⟩ ⟨by exact bO 0x9cf0980,by exact bP 0x3e8a109cf901110003e8a0012 hb hjl⟩
   haveI b1:upd (gD ["shelf", "self"] l) "slot" (.int ((0+j:Nat):Int)) "self" = some (.inst "Room" ri):=fZ ∅ ∅ a1
   have b2:upd (gD ["shelf", "self"] l) "slot" (.int ((0+j:Nat):Int)) "shelf" = some (.inst "Shelf" s.sh):=fZ ∅ ∅ a2
   haveI rs:=λl=>(pN hRx hm l).1
   exact ⟨Hx,eJ (H2:=Hx) rfl (by exists b1,b2,aS hRx (f := "begin") ⟨by decide,by decide,by decide⟩,vb,rs),aaj _⟩
 obtain ⟨H',hc,hp⟩:=hc
 refine ⟨H',?_,(aaz _ _).trans hp⟩
 rw [hc]
 haveI:((bX 0 s.bs).filterMap λk=>some (aO (s.pg*r.len+k*s.sz,s.sz)))=(c8 r.len (look r.ss) s.pg).map aO:=by
  unfold c8 look
  rw [hf]
  simp [Function.comp_def]
 rw [this]
theorem Et (g:Int):(c8 r.len (look r.ss) g).length<=1000:=by
 unfold c8
 split
 ·rename_i v hv
  obtain ⟨s,hs,_,hb⟩:=bi hv
  rw [aak,iu,<- hb]
  exact aam List.count_le_length (hO.bslen (aJ hs).1)
 ·simp
theorem EH:∃n H',A4 (jy [.inst "Room" ri] H= .ok (.ref n) H') (H<+:H') (H.length<=n) (H'[n]? = some (.list ((ck r.p r.len (look r.ss)).map aO))):=by
 obtain ⟨l0,e0,a1⟩:∃l0,aX ["self"] [.inst "Room" ri]=l0/\l0 "self" = some (.inst "Room" ri):=⟨_,rfl,rfl⟩
 obtain ⟨l1,el1⟩:∃l1,upd l0 "found" (.ref H.length)=l1:=⟨_,rfl⟩
 have b1:l1 "self" = some (.inst "Room" ri):=ah el1 ∅ a1
 haveI b2:l1 "found" = some (.ref H.length):=az el1
 obtain ⟨H1,e1⟩:∃H1,H++[O.list []]=H1:=⟨_,rfl⟩
 have p1:H<+:H1:=⟨_,e1⟩
 have R1:=hR.pre p1
 haveI t1:lI ⟨l0,H⟩= .ok .next ⟨l1,H1⟩:=by
  exists el1,e1
 haveI hs0:=qM R1 hO l1
 rw [hO.keys] at hs0
 unfold ck
 obtain ⟨ks,eks⟩:∃ks,dJ r.p (look r.ss)=ks:=⟨_,rfl⟩
 rw [eks] at hs0 ⊢
 haveI hkl:=pq r.p hO.p.2 (look r.ss)
 rw [eks] at hkl
 obtain ⟨H2,e2⟩:∃H2,H1++[O.list (ks.map V.int)]=H2:=⟨_,rfl⟩
 have p2:H1<+:H2:=⟨_,e2⟩
 rw [e2] at hs0
 have x2:H2[H1.length]? = some (.list (ks.map V.int)):=by rw [<- e2];simp
 obtain ⟨q',hq,ys,n,acc,ey,_,i1,i2,i3,i4,i5,i6,i7⟩:=fE (g:=λH=>ax (.ref H1.length) H=some (ks.map V.int)) (bd:=aY "page") (body:=lx)
  (λrem q=> ∃(ys:List Int) (n:Nat) (acc:List (Int×Int)),rem=ys.map V.int/\(∀y∈ys,y∈ks)/\q.l "self" = some (.inst "Room" ri)/\q.l "found" = some (.ref n)/\H2<+:q.H/\H.length<=n/\q.H[n]? = some (.list (acc.map aO)) /\
   acc++ys.flatMap (c8 r.len (look r.ss))=ks.flatMap (c8 r.len (look r.ss))/\acc.length+ys.length*1000<=50000) (λx rem q hI=>by
   obtain ⟨ys,n,acc,e,h1,h2,h3,h4,h5,h6,h7,h8⟩:=hI
   obtain ⟨l,Hq⟩:=q
   dsimp only at h2 h3 h4 h6
   cases ys with
   | nil=>simp at e
   | cons g ys =>
    obtain ⟨rfl,rfl⟩:x= .int g/\rem=ys.map V.int:=by simpa using e
    obtain ⟨v,hv⟩:=jS (eks▸h1 g (.head _):g∈dJ r.p (look r.ss))
    obtain ⟨s,hs,_⟩:=bi hv
    have hRq:=hR.pre ((p1.trans p2).trans h4)
    obtain ⟨l2,el2⟩:∃l2,upd (upd l "page" (.int g)) "shelf" (.inst "Shelf" s.sh)=l2:=⟨_,rfl⟩
    haveI c0:upd l "page" (.int g) "self" = some (.inst "Room" ri):=ah rfl ∅ h2
    have c1:l2 "self" = some (.inst "Room" ri):=lp el2 ∅ ∅ h2
    haveI c2:l2 "shelf" = some (.inst "Shelf" s.sh):=az el2
    haveI c3:l2 "found" = some (.ref n):=lp el2 ∅ ∅ h3
    obtain ⟨H3,hc,p3⟩:=Eu hRq hO hs c1 c2
    have hl:=Et hR hO g
    obtain ⟨H4,e4⟩:∃H4,H3++[O.list ((c8 r.len (look r.ss) g).map aO)]=H4:=⟨_,rfl⟩
    rw [e4] at hc
    have p4:Hq<+:H4:=p3.trans ⟨_,e4⟩
    haveI y1:H4[n]? = some (.list (acc.map aO)):=aE p4 h6
    haveI y2:H4[H3.length]? = some (.list ((c8 r.len (look r.ss) g).map aO)):=by rw [<- e4];simp
    haveI had:cY (.ref n) (.ref H3.length) ⟨l2,H4⟩= .ok (.ref H4.length) ⟨l2,H4++[.list ((acc++c8 r.len (look r.ss) g).map aO)]⟩:=by
     haveI:(acc.map aO).length+((c8 r.len (look r.ss) g).map aO).length<=1000000:=by simp at h8 ⊢;exact id (lZ 0xf4240a20c00003e8a20100c350a10c012 h8 hl)
     rw [aa7];exact Iq y1 y2 this
    have p5:H2<+:H4++[O.list ((acc++c8 r.len (look r.ss) g).map aO)]:=(h4.trans p4).trans (aaz _ _)
    refine ⟨⟨upd l2 "found" (.ref H4.length),H4++[.list ((acc++c8 r.len (look r.ss) g).map aO)]⟩,?_,bY (aE p5 x2),ys,H4.length,acc++c8 r.len (look r.ss) g,rfl,λy hy=>h1 y (.tail _ hy),ah rfl ∅ c1,by simp [upd],p5,((p1.trans p2).trans (h4.trans p4)).length_le,by simp,?_,?_⟩
    ·rw [pL,y8]
     refine ak (q':=⟨l2,Hq⟩) ?_ ?_
     ·exists c0,bf hRq,cK hRq hs,el2
     ·exists c3,hc,had
    ·rw [<- h7];simp
    ·simp at h8 ⊢;exact aam (by rw [Nat.add_assoc];exact Nat.add_le_add_left (aam (Nat.add_le_add_right hl _) (Nat.le_of_eq (by rw [Nat.succ_mul,Nat.add_comm]))) _) h8) _ ⟨l1,H2⟩ ⟨ks,H.length,[],rfl,λy hy=>hy,b1,b2,aaj _,aaL _,aE p2 (by rw [<- e1];simp),by simp,by simp;exact aam (Nat.mul_le_mul_right 1000 hkl) ∅⟩
 cases ys with
 | cons _ _=>simp at ey
 | nil =>
 simp at i6
 refine ⟨n,q'.H,a9 (m:=nS) (q:=q') rfl ?_,(p1.trans p2).trans i3,i4,by rw [<- i6];exact i5⟩
 rw [e0]
 refine ak t1 (ak (q':=q') ?_ ?_)
 ·exists b1,bf R1,hs0,dg x2;exact hq
 ·obtain ⟨l',H'⟩:=q'
  dsimp only at i2
  exists i2
end
noncomputable def IM (p len:Int) (F:Vw) (z:Int):Int :=
 mQ ((bW p F z).map (EX F))+(((tq p F).length:Nat)+(((lX p F).filter λg => !jE F z g).length:Nat))*len.fdiv z
theorem Gs {H:Hp} {l:bk} {n:Nat} {ks:List Int} (h:H[n]? = some (.list (ks.map V.int))) (hl:ks.length<=1000000):AA [.ref n] ⟨l,H⟩= .ok (.int (mQ ks)) ⟨l,H⟩:=by
 unfold AA;dsimp only;rw [h];dsimp only;rw [oI];exact if_pos hl
section
variable {H:Hp} {ri:Nat} {r:Rm} (hR:aF H ri r) (hO:r.Ok)
include hR hO
theorem AC {w:Int} (hw:1<=w):match r.xs.find? (λx=>decide (x>=w)) with
  | none=>eV [.inst "Room" ri,.int w] H= .exc "TooLarge" H
  | some z=> ∃H',eV [.inst "Room" ri,.int w] H= .ok (.int (IM r.p r.len (look r.ss) z)) H'/\H<+:H':=by
 obtain ⟨l0,e0,a1,a2⟩:∃l0,aX ["self", "places"] [.inst "Room" ri,.int w]=l0/\l0 "self" = some (.inst "Room" ri)/\l0 "places" = some (.int w):=⟨_,rfl,rfl,rfl⟩
 have hsf:=uV H r.pl r.p r.len r.xs w hR.isPlan
 rw [if_neg (by exact cI 0x190d019811 hw)] at hsf
 have hmp:∀l,db "Plan" "size_for" (.inst "Plan" r.pl) ⟨l,H⟩= .ok () ⟨l,H⟩:=λl=>dy hR.plan rfl
 cases hz:r.xs.find? (λx=>decide (x>=w)) with
 | none =>
  rw [hz] at hsf
  refine iC (m:=gP) (q:=⟨l0,H⟩) rfl ?_
  rw [e0]
  exact jn (by simp only [fM,pL,Gp,a1,a2,fK hR,hmp,Gr,qJ,hsf])
 | some z =>
  rw [hz] at hsf
  haveI hzx:z∈r.xs:=aaT hz
  dsimp only
  haveI t1:fM ⟨l0,H⟩= .ok .next ⟨upd l0 "size" (.int z),H⟩:=by exists a1,a2,fK hR,hmp,hsf
  obtain ⟨l1,el1⟩:∃l1,upd l0 "size" (.int z)=l1:=⟨_,rfl⟩
  rw [el1] at t1
  have b1:l1 "self" = some (.inst "Room" ri):=ah el1 ∅ a1
  have b2:l1 "size" = some (.int z):=az el1
  obtain ⟨n,H1,hof,p1,x1⟩:=wC hR hO z
  rw [hO.ofSz] at x1
  unfold IM
  have hzl:=ux r.p hO.p.2 (look r.ss) z
  obtain ⟨zs,ezs⟩:∃zs,bW r.p (look r.ss) z=zs:=⟨_,rfl⟩
  rw [ezs] at x1 hzl ⊢
  haveI hc1:∃H',fy ⟨l1,H⟩= .ok (.ref H'.length) ⟨l1,H'++[.list (zs.filterMap λg=>some (V.int (EX (look r.ss) g)))]⟩/\H1<+:H':=by
   unfold fy
   refine dQ (n:=n) (ks:=zs) ?_ x1 (by exact bO 0xf4240a00000028a0011 hzl) (λg=>some (V.int (EX (look r.ss) g))) λg hg Hx hp=> ?_
   ·exists b1,b2,aS hR (f := "of_size") ⟨by decide,by decide,by decide⟩,hof
    exact dg x1
   ·obtain ⟨v,hv⟩:=jS (aaD.mp (ezs▸hg:g∈bW r.p (look r.ss) z)).1
    obtain ⟨s,hs,y1,y2⟩:=bi hv
    have hm:=(aJ hs).1
    have hRx:=hR.pre (p1.trans hp)
    haveI c1:upd (gD ["self"] l1) "page" (.int g) "self" = some (.inst "Room" ri):=fZ ∅ ∅ b1
    obtain ⟨mf,cf⟩:=xv hRx hO hm (upd (gD ["self"] l1) "page" (.int g))
    haveI hE:EX (look r.ss) g=(gw 0 s.bs).length:=by unfold EX;rw [hv,y2]
    haveI hfl:=qr s.bs 0
    haveI hbl:=hO.bslen hm
    haveI hl:=cj (l:=upd (gD ["self"] l1) "page" (.int g)) (H:=Hx++[.list ((gw 0 s.bs).map V.int)]) (i:=Hx.length) (xs:=(gw 0 s.bs).map V.int) (by simp) (by simp;exact id (lZ 0xf4240a010003e8a201210c212 hfl hbl))
    rw [aak] at hl
    rw [hE]
    exact ⟨_,eJ (H2:=Hx) rfl (by exists c1,bf hRx,cK hRx hs,mf,cf,hl),aaz _ _⟩
  obtain ⟨H2,hc1,p2⟩:=hc1
  obtain ⟨H3,e3⟩:∃H3,H2++[O.list (zs.filterMap λg=>some (V.int (EX (look r.ss) g)))]=H3:=⟨_,rfl⟩
  rw [e3] at hc1
  have p3:H<+:H3:=(p1.trans p2).trans ⟨_,e3⟩
  haveI x3:H3[H2.length]? = some (.list ((zs.map (EX (look r.ss))).map V.int)):=by rw [<- e3];simp [Function.comp_def]
  haveI hsum:=Gs (l:=l1) x3 (by simp;exact id (bO 0xf4240a00000028a0011 hzl))
  have R3:=hR.pre p3
  obtain ⟨l2,el2⟩:∃l2,upd l1 "free" (.int (mQ (zs.map (EX (look r.ss)))))=l2:=⟨_,rfl⟩
  haveI t2:jq ⟨l1,H⟩= .ok .next ⟨l2,H3⟩:=by exists hc1,hsum,el2
  have c1:l2 "self" = some (.inst "Room" ri):=ah el2 ∅ b1
  have c2:l2 "size" = some (.int z):=ah el2 ∅ b2
  haveI c3:l2 "free" = some (.int (mQ (zs.map (EX (look r.ss))))):=az el2
  obtain ⟨m,H4,he,p4,x4⟩:=sX R3 hO
  rw [hO.empt] at x4
  have hel:=yl r.p hO.p.2 (look r.ss)
  obtain ⟨es,ees⟩:∃es,lX r.p (look r.ss)=es:=⟨_,rfl⟩
  rw [ees] at x4 hel ⊢
  haveI hc2:∃H',fz ⟨l2,H3⟩= .ok (.ref H'.length) ⟨l2,H'++[.list (es.filterMap λg=>if (!jE (look r.ss) z g) then some (V.int g) else none)]⟩/\H4<+:H':=by
   unfold fz
   refine dQ (n:=m) (ks:=es) ?_ x4 (by exact bO 0xf4240a00000028a0011 hel) (λg=>if (!jE (look r.ss) z g) then some (V.int g) else none) λg hg Hx hp=> ?_
   ·exists c1,aS R3 (f := "empty_pages") ⟨by decide,by decide,by decide⟩,he
    exact dg x4
   ·obtain ⟨v,hv⟩:=jS (aaD.mp (ees▸hg:g∈lX r.p (look r.ss))).1
    obtain ⟨s,hs,y1,y2⟩:=bi hv
    haveI hm:=(aJ hs).1
    have hRx:=R3.pre (p4.trans hp)
    have rs:=λl=>(pN hRx hm l).1
    have d1:upd (gD ["size", "self"] l2) "page" (.int g) "self" = some (.inst "Room" ri):=fZ ∅ ∅ c1
    have d2:upd (gD ["size", "self"] l2) "page" (.int g) "size" = some (.int z):=fZ ∅ ∅ c2
    haveI hz':jE (look r.ss) z g=decide (s.sz=z):=by unfold jE;rw [hv,y1]
    rw [hz']
    refine ⟨Hx,?_,aaj _⟩
    have d3:upd (gD ["size", "self"] l2) "page" (.int g) "page" = some (.int g):=j5 _ _ _
    have eqz:=λq=>pM s.sz z q
    cases hb:decide (s.sz=z) with
    | false=>rw [hb] at eqz;exact eJ (H2:=Hx) (by exists d1,d3,bf hRx,cK hRx hs,rs,d2,eqz) (g_get d3)
    | true=>rw [hb] at eqz;exact pU (by exists d1,d3,bf hRx,cK hRx hs,rs,d2,eqz)
  obtain ⟨H5,hc2,p5⟩:=hc2
  rw [dW] at hc2
  have hol:(es.filter λg => !jE (look r.ss) z g).length<=40:=aam (aa8 _ _) hel
  obtain ⟨os,eos⟩:∃os,(es.filter λg => !jE (look r.ss) z g)=os:=⟨_,rfl⟩
  rw [eos] at hc2 hol ⊢
  obtain ⟨H6,e6⟩:∃H6,H5++[O.list (os.map V.int)]=H6:=⟨_,rfl⟩
  rw [e6] at hc2
  have p6:H3<+:H6:=(p4.trans p5).trans ⟨_,e6⟩
  haveI x6:H6[H5.length]? = some (.list (os.map V.int)):=by rw [<- e6];simp
  obtain ⟨l3,el3⟩:∃l3,upd l2 "others" (.ref H5.length)=l3:=⟨_,rfl⟩
  haveI t3:jr ⟨l2,H3⟩= .ok .next ⟨l3,H6⟩:=by exists hc2,el3
  have d1:l3 "self" = some (.inst "Room" ri):=ah el3 ∅ c1
  haveI d2:l3 "size" = some (.int z):=ah el3 ∅ c2
  haveI d3:l3 "free" = some (.int (mQ (zs.map (EX (look r.ss))))):=ah el3 ∅ c3
  haveI d4:l3 "others" = some (.ref H5.length):=az el3
  have R6:=R3.pre p6
  obtain ⟨_,hpl,rfl⟩:=AB R6 hO
  rw [xp] at hpl
  have hbl:=C7 r.p hO.p.2 (look r.ss)
  obtain ⟨bp,ebp⟩:∃bp,tq r.p (look r.ss)=bp:=⟨_,rfl⟩
  rw [ebp] at hpl hbl ⊢
  obtain ⟨H7,e7⟩:∃H7,H6++[O.list (bp.map V.int)]=H7:=⟨_,rfl⟩
  rw [e7] at hpl
  have p7:H6<+:H7:=⟨_,e7⟩
  have R7:=R6.pre p7
  haveI q1:=cj (l:=l3) (i:=H6.length) (xs:=bp.map V.int) (H:=H7) (by rw [<- e7];simp) (by simp;exact id (bO 0xf4240a01000028a0011 hbl))
  haveI q2:=cj (l:=l3) (i:=H5.length) (xs:=os.map V.int) (H:=H7) (aE p7 x6) (by simp;exact id (bO 0xf4240a01000028a0011 hol))
  rw [aak] at q1 q2
  haveI hper:=Ar R7 hO hzx
  haveI hpm:∀l,db "Plan" "per" (.inst "Plan" r.pl) ⟨l,H7⟩= .ok () ⟨l,H7⟩:=λl=>dy R7.plan rfl
  haveI hmul:∀q,gB (.int ((bp.length:Int)+(os.length:Int))) (.int (r.len.fdiv z)) q= .ok (.int (((bp.length:Int)+(os.length:Int))*r.len.fdiv z)) q:=λq=>Bq _ _ q (I1 (by exact bP 0x1f0fc0980) (by exact bP 0xf4240a0f1fc9000028a101000028a0012 hol hbl))
  refine ⟨H7,a9 (m:=gP) (q:=⟨l3,H7⟩) rfl ?_,p3.trans (p6.trans p7)⟩
  rw [e0]
  refine ak t1 (ak t2 (ak t3 ?_))
  exists d1,d2,d3,d4,aS R6 (f := "pile") ⟨by decide,by decide,by decide⟩,hpl,q1,q2,fK R7,hpm,hper,hmul
end
noncomputable def yW (F:Vw) (g:Int):Bool:=match F g with | some v=>(bg v.2).isSome | none=>false
theorem pK {F:Vw} {g:Int} (h:yW F g=true):∃v j,F g=some v/\bg v.2=some j:=by
 unfold yW at h
 split at h
 ·rename_i v hv
  obtain ⟨j,hj⟩:=aaR.mp h
  exact ⟨v,j,hv,hj⟩
 ·cases h
noncomputable def lY (len z:Int) (stay:List Int) (F:Vw) (it:Int×Int):(Int×Int)×Vw:=match stay.find? (yW F) with
 | some h=>(match F h with
  | some v=>(match bg v.2 with
   | some j=>((it.1*len+it.2*z,h*len+(j:Nat)*z),cL F h (some (z,v.2.set j true)))
   | none=>((0,0),F))
  | none=>((0,0),F))
 | none=>((0,0),F)
theorem sU {len z:Int} {stay:List Int} {F:Vw} (it:Int×Int) {h:Int} {v:Int×List Bool} {j:Nat} (h1:stay.find? (yW F)=some h) (h2:F h=some v) (h3:bg v.2=some j) :
  lY len z stay F it=((it.1*len+it.2*z,h*len+(j:Nat)*z),cL F h (some (z,v.2.set j true))):=by
 unfold lY;rw [h1];dsimp only;rw [h2];dsimp only;rw [h3]
noncomputable def fj (len z:Int) (stay:List Int):Vw->List (Int×Int)->List (Int×Int)×Vw
 | F,[]=>([],F)
 | F,it::r=>((lY len z stay F it).1::(fj len z stay (lY len z stay F it).2 r).1,(fj len z stay (lY len z stay F it).2 r).2)
theorem wq (len z:Int) (stay:List Int) (F:Vw):fj len z stay F []=([],F):=rfl
theorem oP (len z:Int) (stay:List Int) (F:Vw) (it:Int×Int) (r:List (Int×Int)):fj len z stay F (it::r)=((lY len z stay F it).1::(fj len z stay (lY len z stay F it).2 r).1,(fj len z stay (lY len z stay F it).2 r).2):=rfl
noncomputable def Ci (len z:Int) (stay:List Int):Vw->List (Int×Int)->Prop
 | _,[]=>True
 | F,it::r=>(stay.find? (yW F)).isSome=true/\Ci len z stay (lY len z stay F it).2 r
noncomputable def Gg (F:Vw) (g:Int):Nat:=match F g with | some v=>v.2.count false | none=>0
noncomputable def ku (F:Vw) (stay:List Int):Nat:=(stay.map (Gg F)).sum
theorem mA:∀ {bs:List Bool} {j:Nat},bg bs=some j->(bs.set j true).count false+1=bs.count false
 | [],_,h=>by cases h
 | false::r,j,h=>by
  cases h
  rw [List.set_cons_zero,abb ∅,List.count_cons_self]
 | true::r,j,h=>by
  change (bg r).map (· + 1)=some j at h
  cases hf:bg r with
  | none=>rw [hf] at h;cases h
  | some i =>
   rw [hf] at h
   cases h
   rw [List.set_cons_succ,abb ∅,abb ∅]
   exact mA hf
theorem oG:∀ {bs:List Bool},0<bs.count false->(bg bs).isSome=true
 | [],h=>by simp at h
 | false::r,h=>rfl
 | true::r,h=>by
  rw [abb ∅] at h
  rw [bg,Option.isSome_map]
  exact oG h
theorem Dh:∀bs:List Bool,bs.count true+bs.count false=bs.length
 | []=>rfl
 | true::r=>by rw [List.count_cons_self,abb ∅,aau];have:=Dh r;exact id (aaf (lZ 0x192c1190cc0210c211 this) (lZ 0x1190cc192c0210c311 this))
 | false::r=>by rw [List.count_cons_self,abb ∅,aau];have:=Dh r;exact id (aaf (lZ 0x192c191c0c0210c211 this) (lZ 0x191c0c192c0210c311 this))
theorem wh {F:Vw}:∀ {stay:List Int},0<ku F stay->(stay.find? (yW F)).isSome=true
 | [],h=>by simp [ku] at h
 | g::r,h=>by
  by_cases ho:yW F g=true
  ·rw [aaG ho];rfl
  ·rw [aay ho]
   haveI:Gg F g=0:=by
    unfold yW at ho
    unfold Gg
    split
    ·rename_i v hv
     rw [hv] at ho
     rcases Nat.eq_zero_or_pos (v.2.count false) with h0 | h0
     ·exact h0
     ·exact absurd (oG h0) ho
    ·rfl
   unfold ku at h
   rw [aas,List.sum_cons,this,aa6] at h
   exact wh h
theorem Cy {f f':Int->Nat}:∀ {l:List Int},(∀x∈l,f x=f' x)->(l.map f).sum=(l.map f').sum:=λh=>by rw [abf h]
theorem xH {f f':Int->Nat} {h:Int} (hh:f' h+1=f h) (hn:∀x,x≠h->f' x=f x):∀ {l:List Int},l.Nodup->h∈l->(l.map f').sum+1=(l.map f).sum
 | [],_,hm=>by cases hm
 | x::l,hd,hm=>by
  rw [aaP] at hd
  rw [aas,aas,List.sum_cons,List.sum_cons]
  rcases aah.mp hm with rfl | hm
  ·have:(l.map f').sum=(l.map f).sum:=Cy λy hy=>hn y λe=>hd.1 (e▸hy)
   exact id (aaf (vd 0x31c1920cc032211190c212 hh this) (vd 0x1920cc31c032311190c312 hh this))
  ·have h1:=xH hh hn hd.2 hm
   have h2:f' x=f x:=hn x λe=>hd.1 (e▸hm)
   exact id (aaf (vd 0x13c1902cc032211190c212 h1 h2) (vd 0x1902cc13c032311190c312 h1 h2))
theorem BZ {len z:Int} {stay:List Int} {F:Vw} (it:Int×Int) (hd:stay.Nodup) (h:(stay.find? (yW F)).isSome=true):ku (lY len z stay F it).2 stay+1=ku F stay:=by
 obtain ⟨g,hg⟩:=aaR.mp h
 obtain ⟨v,j,hv,hj⟩:=pK (List.find?_some hg)
 rw [sU it hg hv hj]
 dsimp only
 unfold ku
 refine xH (h:=g) ?_ (λx hx=> ?_) hd (aaT hg)
 ·unfold Gg
  rw [bM,hv]
  exact mA hj
 ·unfold Gg
  rw [dm _ _ hx]
theorem Bi {len z:Int} {stay:List Int} (hd:stay.Nodup):∀ {its:List (Int×Int)} {F:Vw},its.length<=ku F stay->Ci len z stay F its
 | [],_,_=>trivial
 | it::r,F,h=>by
  rw [aau] at h
  have h1:(stay.find? (yW F)).isSome=true:=wh (by exact bP 0x10911190c011 h)
  haveI h2:=BZ (len:=len) (z:=z) it hd h1
  exact ⟨h1,Bi hd (by exact lZ 0x2001192c311190c012 h h2)⟩
noncomputable def tK (F:Vw) (g:Int):List (Int×Int):=match F g with | some v=>(bX 0 v.2).map λk=>(g,k) | none=>[]
noncomputable def b9 (F:Vw) (stay ys:List Int):List (Int×Int):=ys.flatMap λg=>if g∈stay then [] else tK F g
noncomputable def iy (F:Vw) (g:Int):Int:=((dA F g:Nat):Int)
noncomputable def di (p:Int) (F:Vw) (z:Int):List (Int×Int):=mP ((bW p F z).map λg=>(-iy F g,g))
noncomputable def cR (p len:Int) (F:Vw) (z:Int):Int:=(mQ ((bW p F z).map (iy F))+len.fdiv z-1).fdiv (len.fdiv z)
noncomputable def br (p len:Int) (F:Vw) (z:Int):List Int:=cH (((di p F z).take (cR p len F z).toNat).map (·.2))
theorem uw (f:Int->Nat):∀l:List Int,mQ (l.map λg=>((f g:Nat):Int))=(((l.map f).sum:Nat):Int)
 | []=>rfl
 | g::l=>by rw [aas,Cw,uw f l,aas,List.sum_cons];push_cast;rfl
section
variable {p len z:Int} {F:Vw} (hs:∀g v,F g=some v->v.1=z->(v.2.length:Int)=len.fdiv z) (hz:1<=len.fdiv z)
theorem qe:(bW p F z).Nodup:=(tN p F).filter _
theorem uY {g:Int} (h:g∈bW p F z):∃bs,F g=some (z,bs):=by
 obtain ⟨h1,h2⟩:=aaD.mp h
 obtain ⟨v,hv⟩:=jS h1
 unfold jE at h2
 rw [hv] at h2
 haveI:v.1=z:=by simpa using h2
 exact ⟨v.2,by rw [hv,<- this]⟩
theorem jY:((di p F z).map (·.2)).Perm (bW p F z):=by
 haveI:=(lf ((bW p F z).map λg=>(-iy F g,g))).map (·.2)
 rw [aaQ] at this
 unfold di
 refine this.trans ?_
 haveI:(bW p F z).map ((λx:Int×Int=>x.2)∘λg=>(-iy F g,g))=bW p F z:=by
  rw [show ((λx:Int×Int=>x.2)∘λg=>(-iy F g,g))=id from rfl,List.map_id]
 rw [this]
theorem nx:(br p len F z).Perm (((di p F z).take (cR p len F z).toNat).map (·.2)):=iS _
theorem zi:(((di p F z).take (cR p len F z).toNat).map (·.2)).Sublist ((di p F z).map (·.2)):=(List.take_sublist _ _).map _
theorem oV:(br p len F z).Nodup:=nx.nodup_iff.mpr ((jY.nodup_iff.mpr qe).sublist zi)
theorem pT {g:Int} (h:g∈br p len F z):g∈bW p F z:=jY.mem_iff.mp (zi.mem (nx.mem_iff.mp h))
theorem xe (stay:List Int):∀ys:List Int,(b9 F stay ys).length=((ys.filter λg => !decide (g∈stay)).map (dA F)).sum
 | []=>rfl
 | g::ys=>by
  unfold b9
  rw [aaS,aac]
  have ih:=xe stay ys
  unfold b9 at ih
  by_cases h:g∈stay
  ·rw [if_pos h,aaV (by simp [h]),ih];simp
  ·rw [if_neg h,aaU (by simp [h]),ih,aas,List.sum_cons]
   haveI:(tK F g).length=dA F g:=by
    unfold tK dA
    cases F g with
    | some v=>dsimp only;rw [aak,iu]
    | none=>rfl
   rw [this]
include hs hz
theorem cap:(b9 F (br p len F z) (bW p F z)).length<=ku F (br p len F z):=by
 haveI hper:∀g∈bW p F z,Gg F g+dA F g=(len.fdiv z).toNat:=λg hg=>by
  obtain ⟨bs,hb⟩:=uY hg
  have h1:=hs g _ hb rfl
  dsimp only at h1
  have h2:=Dh bs
  unfold Gg dA
  rw [hb]
  dsimp only
  exact id (aaf (fi [_,_,_,_] [_] 0x312c03f081021c2100fa13 h1 h2 (aaH _)) (fi [_,_,_,_] [_] 0x12c3003fa1021c3100fb13 h1 h2 (aai (cI 0x98019811 hz))))
 obtain ⟨per,eper⟩:∃per,(len.fdiv z).toNat=per:=⟨_,rfl⟩
 rw [eper] at hper
 have hper1:len.fdiv z=(per:Int):=by exact aa4 (kK 0x1f080f08110212 eper (aaH _)) (kK 0x1f800fa110312 eper (aai (cI 0x98019811 hz)))
 rw [xe]
 obtain ⟨zs,ezs⟩:∃zs,bW p F z=zs:=⟨_,rfl⟩
 obtain ⟨st,est⟩:∃st,br p len F z=st:=⟨_,rfl⟩
 haveI hzn:zs.Nodup:=ezs▸qe
 haveI hsn:st.Nodup:=est▸oV
 have hsi:∀g∈st,g∈zs:=λg hg=>ezs▸pT (est▸hg)
 rw [ezs] at hper ⊢
 rw [est]
 -- the sums
 haveI s1:(zs.map (dA F)).sum=((zs.filter λg=>decide (g∈st)).map (dA F)).sum+((zs.filter λg => !decide (g∈st)).map (dA F)).sum:=by
  haveI:=(List.filter_append_perm (λg=>decide (g∈st)) zs).map (dA F)
  rw [<- this.sum_nat,aa7,List.sum_append]
 haveI s2:((zs.filter λg=>decide (g∈st)).map (dA F)).sum=(st.map (dA F)).sum:=by
  refine List.Perm.sum_nat (List.Perm.map _ ?_)
  refine (List.perm_ext_iff_of_nodup (hzn.filter _) hsn).mpr λg=> ?_
  rw [aaD]
  constructor
  ·rintro ⟨_,h⟩;simpa using h
  ·intro h;exact ⟨hsi g h,by simpa using h⟩
 have tot:∀l:List Int,(∀g∈l,g∈zs)->(l.map (Gg F)).sum+(l.map (dA F)).sum=l.length*per:=λl hl=>by
  clear s1 s2
  induction l with
  | nil=>simp
  | cons g l ih =>
   have h1:=hper g (hl g (.head _))
   have h2:=ih λx hx=>hl x (.tail _ hx)
   rw [aas,aas,List.sum_cons,List.sum_cons,aau,Nat.succ_mul]
   exact id (aaf (fi [_,_,_,_,_,_] [] 0x25c41c30cc0543c21210c212 h1 h2) (fi [_,_,_,_,_,_] [] 0x41c30cc25c0543c31210c312 h1 h2))
 haveI h3:=tot st hsi
 haveI h4:(zs.map (dA F)).sum<=zs.length*per:=by haveI:=tot zs λg hg=>hg;exact id (lZ 0x210210c211 this)
 -- how many stay
 haveI hlen:st.length=min (cR p len F z).toNat zs.length:=by
  rw [<- est,nx.length_eq,aak,List.length_take]
  congr 1
  rw [<- ezs,<- (jY (p:=p) (F:=F) (z:=z)).length_eq,aak]
 haveI hmany:(zs.map (dA F)).sum<=st.length*per:=by
  have hne:cR p len F z=((((zs.map (dA F)).sum:Nat):Int)+(per:Int)-1).fdiv (per:Int):=by
   unfold cR
   rw [ezs,hper1]
   congr 2
   congr 1
   exact uw (dA F) zs
  rw [hlen]
  rcases Nat.le_total (cR p len F z).toNat zs.length with h | h
  ·rw [Nat.min_eq_left h]
   obtain ⟨u1,u2,u3,u4⟩:=dH (a:=(((zs.map (dA F)).sum:Nat):Int)+(per:Int)-1) (b:=per) (by exact kK 0x190f1fce0980f0a1019812 hz hper1) (by exact dE 0xf1980f0a1019812 hz hper1)
   rw [<- hne] at u1 u4
   rw [Int.add_mul] at u4
   haveI:(((cR p len F z).toNat*per:Nat):Int)=cR p len F z*per:=by push_cast;rw [aai u1]
   exact id (fi [_,_,_] [_] 0x20002fb11f01d0c191f0fce912 u4 this)
  ·rw [Nat.min_eq_right h];exact h4
 unfold ku
 exact id (fi [_,_,_,_,_,_] [] 0x4205001534c31313121c0314 s1 s2 h3 hmany)
theorem zX:Ci len z (br p len F z) F (b9 F (br p len F z) (bW p F z)):=Bi oV (cap hs hz)
end
noncomputable def gN (p len:Int) (F:Vw) (z:Int):List (Int×Int):=(fj len z (br p len F z) F (b9 F (br p len F z) (bW p F z))).1
noncomputable def B2 (p len:Int) (F:Vw) (z:Int):Vw:=dY (fj len z (br p len F z) F (b9 F (br p len F z) (bW p F z))).2 ((bW p F z).filter λg => !decide (g∈br p len F z))
theorem DD (F:Vw) (stay:List Int) (n:Nat) (hn:∀g,dA F g<=n):∀ys:List Int,(b9 F stay ys).length<=ys.length*n
 | []=>by simp [b9]
 | g::ys=>by
  have ih:=DD F stay n hn ys
  rw [xe] at ih ⊢
  haveI:=hn g
  by_cases h:g∈stay
  ·rw [aaV (by simp [h]),aau,Nat.succ_mul];exact id (lZ 0x21c0010011 ih)
  ·rw [aaU (by simp [h]),aas,List.sum_cons,aau,Nat.succ_mul];exact id (vd 0x31c02c0320110012 ih this)
theorem yt {φ : Int->Option V} {o:Int->Bool} (hφ : ∀g,o g=false -> φ g=none) {h:Int} {x:V} (hx : φ h=some x):∀ {l:List Int},l.find? o=some h->(l.filterMap φ)[0]? = some x
 | [],e=>by cases e
 | g::l,e=>by
  cases ho:o g with
  | true =>
   rw [aaG ho] at e
   cases e
   rw [List.filterMap_cons_some hx];rfl
  | false =>
   rw [aay (by rw [ho];simp)] at e
   rw [List.filterMap_cons_none (hφ g ho)]
   exact yt hφ hx e
noncomputable def En (ss:List bD) (g:Int):Option V:=match dz ss g with | some s=>if (bg s.bs).isSome then some (.inst "Shelf" s.sh) else none | none=>none
theorem HF {ss:List bD} {g:Int} (h:yW (look ss) g=false):En ss g=none:=by
 unfold yW look at h
 unfold En
 cases hf:dz ss g with
 | none=>rfl
 | some s=>rw [hf] at h;dsimp only [Option.map_some] at h;simp [h]
noncomputable def BX (a b:Int):List Int->List Int->List Int
 | cs,[]=>cs
 | cs,y::ys=>BX a b (cs.set (b+y).toNat (cs.getD (a+y).toNat 0)) ys
theorem wR (a b:Int):∀(ys cs:List Int),(BX a b cs ys).length=cs.length
 | [],_=>rfl
 | y::ys,cs=>by unfold BX;rw [wR a b ys,List.length_set]
section
variable {H:Hp} {ri:Nat} {r:Rm} (hR:aF H ri r) (hO:r.Ok)
include hR hO
inductive JM (H:Hp) (ri:Nat) (r:Rm) (pl th z:Int) (Z:List Int) (rem:List V) (q:S):Prop
 | mk (cs ys:List Int) (f0:rem=ys.map V.int) (f1:(∀y∈ys,0<=y/\y<z)) (f2:cs.length=r.cs.length) (f3:aF q.H ri { r with cs:=cs }) (f4:cM [r.c] H q.H) (f5:q.l "self" = some (.inst "Room" ri)) (f6:q.l "place" = some (.int pl)) (f7:q.l "there" = some (.int th)) (f8:BX pl th cs ys=Z)
theorem BV {pl th z:Int} (hz:0<=z/\z<=1000) (hin:∀j,0<=j->j<z->0<=pl+j/\pl+j<r.cs.length) (hth:∀j,0<=j->j<z->0<=th+j/\th+j<r.cs.length) {l:bk} (h1:l "self" = some (.inst "Room" ri)) (h2:l "place" = some (.int pl)) (h3:l "size" = some (.int z)) (h4:l "there" = some (.int th)) :
  ∃q',A5 (mX ⟨l,H⟩= .ok .next q') (aF q'.H ri { r with cs:=BX pl th r.cs (cg z) }) (cM [r.c] H q'.H) (q'.l "place" = some (.int pl)) (q'.l "there" = some (.int th)):=by
 haveI e:=Bu z
 obtain ⟨q',hq,cs,ys,e8,_,_,i2,i3,i4,i5,i6,i8⟩:=fE (g:=λ_=>True) (bd:=aY "step") (body:=mj) (JM H ri r pl th z (BX pl th r.cs (cg z))) (λx rem q hI=>by
  obtain ⟨cs,ys,e,h1,h2,h3,h4,h5,h6,h7,h8⟩:=hI
  obtain ⟨l,Hq⟩:=q
  dsimp only at h3 h4 h5 h6 h7
  cases ys with
  | nil=>simp at e
  | cons y ys =>
   obtain ⟨rfl,rfl⟩:x= .int y/\rem=ys.map V.int:=by simpa using e
   obtain ⟨y1,y2⟩:=h1 y (.head _)
   have hO':=Rm.Ok.setCs hR hO h2
   obtain ⟨k1,k2⟩:=hin y y1 y2
   obtain ⟨k3,k4⟩:=hth y y1 y2
   obtain ⟨v,gv,hv⟩:=Br h3 hO' (i:=pl+y) k1 (by show _<((cs.length:Nat):Int);exact id (fi [_,_] [_,_] 0xf10c91f10c9110312 h2 k2))
   haveI hc:=xt h3 hO' (i:=th+y) (v:=v) k3 (by show _<((cs.length:Nat):Int);exact id (fi [_,_] [_,_] 0xf10c91f10c9110312 h2 k4)) (upd l "step" (.int y))
   have hc2:=mM h3 (upd l "step" (.int y))
   have a1:upd l "step" (.int y) "self" = some (.inst "Room" ri):=ah rfl ∅ h5
   have a2:upd l "step" (.int y) "place" = some (.int pl):=ah rfl ∅ h6
   have a3:upd l "step" (.int y) "there" = some (.int th):=ah rfl ∅ h7
   dsimp only at hv hc hc2
   refine ⟨⟨upd l "step" (.int y),Hq.set r.c (.list ((cs.set (th+y).toNat v).map V.int))⟩,?_,trivial,cs.set (th+y).toNat v,ys,rfl,λy' hy'=>h1 y' (.tail _ hy'),by rw [List.length_set];exact h2,aF.setCs h3 hO' _,h4.trans (cM.set (by simp)),a1,a2,a3,?_⟩
   ·exists a1,a2,a3,hc2,hv,hc
   ·rw [<- h8,BX,List.getD_eq_getElem?_getD,show cs[(pl+y).toNat]? = some v from gv];rfl) _ ⟨l,H⟩ ⟨r.cs,cg z,e,λy hy=>bU.mp hy,rfl,hR,cM.refl _ _,h1,h2,h4,rfl⟩
 cases ys with
 | cons _ _=>simp at e8
 | nil =>
 change cs=_ at i8
 rw [i8] at i2
 refine ⟨q',?_,i2,i3,i5,i6⟩
 exists h3,iN z _ (I6 hz)
 exact hq
theorem FW {n:Nat} {stay:List Int} {z pl:Int} (hn:H[n]? = some (.list (stay.map V.int))) (hst:∀g∈stay,∃bs,look r.ss g=some (z,bs)) (hlen:stay.length<=40) (hpl:∀j,0<=j->j<z->0<=pl+j/\pl+j<r.cs.length)
  {h:Int} {bs:List Bool} {j:Nat} (h1:stay.find? (yW (look r.ss))=some h) (h2:look r.ss h=some (z,bs)) (h3:bg bs=some j) :
  ∃r' H',A8 (kj [.inst "Room" ri,.int pl,.ref n,.int z] H= .ok (aO (pl,h*r.len+(j:Nat)*z)) H') (aF H' ri r') r'.Ok (r.Sm r') (look r'.ss=cL (look r.ss) h (some (z,bs.set j true))) (cM (r.own ri) H H') (r'.own ri=r.own ri) (r'.cs=BX pl (h*r.len+(j:Nat)*z) r.cs (cg z)):=by
 refine nK λG kG=> ?_
 obtain ⟨l0,e0,a1,a2,a3,a4⟩:∃l0,aX ["self", "place", "stay", "size"] [.inst "Room" ri,.int pl,.ref n,.int z]=l0/\l0 "self" = some (.inst "Room" ri)/\l0 "place" = some (.int pl)/\l0 "stay" = some (.ref n)/\l0 "size" = some (.int z):=⟨_,rfl,rfl,rfl,rfl,rfl⟩
 obtain ⟨s,hs,y1,y2⟩:=bi h2
 dsimp only at y1 y2
 subst y1 y2
 obtain ⟨hm,ehp⟩:=aJ hs
 subst ehp
 haveI hc:∃H',ix ⟨l0,H⟩= .ok (.ref H'.length) ⟨l0,H'++[.list (stay.filterMap (En r.ss))]⟩/\H<+:H':=by
  unfold ix
  refine dQ (n:=n) (ks:=stay) ?_ hn (by exact bO 0xf4240a00000028a0011 hlen) (En r.ss) λg hg Hx hp=> ?_
  ·exists a3
   exact dg hn
  ·obtain ⟨bs',hb'⟩:=hst g hg
   obtain ⟨s',hs',z1,z2⟩:=bi hb'
   haveI hm':=(aJ hs').1
   have hRx:=hR.pre hp
   refine bH (upd (gD ["self"] l0) "page" (.int g)) λlc elc=> ?_
   have b1:lc "self" = some (.inst "Room" ri):=by rw [<- elc,gX _ _ ∅,Bt (by simp)];exact a1
   have b2:lc "page" = some (.int g):=az elc
   obtain ⟨mf,cf⟩:=xv hRx hO hm' lc
   refine bH (Hx++[O.list ((gw 0 s'.bs).map V.int)]) λH2 e2=> ?_
   refine bH (H2++[O.list []]) λH3 e3=> ?_
   have p2:Hx<+:H2:=⟨_,e2⟩
   have p3:H2<+:H3:=⟨_,e3⟩
   rw [e2] at cf
   have n1:fN [] ⟨lc,H2⟩= .ok (.ref H2.length) ⟨lc,H3⟩:=by rw [kQ,if_pos (by simp),e3]
   haveI g1:H3[Hx.length]? = some (.list ((gw 0 s'.bs).map V.int)):=aE p3 (by rw [<- e2];simp)
   have q1:tB (.ref Hx.length) (.ref H2.length) ⟨lc,H3⟩= .ok (!(bg s'.bs).isSome) ⟨lc,H3⟩:=by
    rw [jX (q:=⟨lc,H3⟩) (ys:=[]) g1 (by rw [<- e3];simp),qs]
   have hR3:=hRx.pre (p2.trans p3)
   haveI hE:En r.ss g=if (bg s'.bs).isSome then some (.inst "Shelf" s'.sh) else none:=by unfold En;rw [hs']
   rw [hE]
   refine ⟨H3,?_,p2.trans p3⟩
   cases hb:(bg s'.bs).isSome with
   | true =>
    rw [hb] at q1
    exact eJ (H2:=H3) (by rw [elc];exists b1,b2,bf hRx,cK hRx hs',mf,cf,n1,q1) (by rw [elc];exists b1,b2,bf hR3,cK hR3 hs')
   | false =>
    rw [hb] at q1
    exact pU (by rw [elc];exists b1,b2,bf hRx,cK hRx hs',mf,cf,n1,q1)
 obtain ⟨H1,hc,p1⟩:=hc
 refine bH (H1++[O.list (stay.filterMap (En r.ss))]) λH2 e2=> ?_
 rw [e2] at hc
 have p2:H<+:H2:=p1.trans ⟨_,e2⟩
 haveI x0:(stay.filterMap (En r.ss))[0]? = some (.inst "Shelf" s.sh):=yt (λg hg=>HF hg) (by unfold En;rw [hs];dsimp only;rw [h3];rfl) h1
 haveI x2:H2[H1.length]? = some (.list (stay.filterMap (En r.ss))):=by rw [<- e2];simp
 haveI hit:aW (.ref H1.length) (.int 0) ⟨l0,H2⟩= .ok (.inst "Shelf" s.sh) ⟨l0,H2⟩:=by
  haveI x0':(stay.filterMap (En r.ss))[(0:Int).toNat]? = some (.inst "Shelf" s.sh):=x0
  exact DA x2 ⟨by decide,by decide⟩ x0'
 refine bH (upd l0 "shelf" (.inst "Shelf" s.sh)) λl1 el1=> ?_
 haveI t1:mV ⟨l0,H⟩= .ok .next ⟨l1,H2⟩:=by exists hc,hit,el1
 have c1:l1 "self" = some (.inst "Room" ri):=ah el1 ∅ a1
 haveI c2:l1 "place" = some (.int pl):=ah el1 ∅ a2
 have c3:l1 "shelf" = some (.inst "Shelf" s.sh):=az el1
 haveI c4:l1 "size" = some (.int s.sz):=ah el1 ∅ a4
 have R2:=hR.pre p2
 obtain ⟨mt,ct,R3,O3⟩:=Bs R2 hO hm h3 l1
 refine bH (H2.set s.t (.list ((s.bs.set j true).map V.bool))) λH3 e3=> ?_
 rw [e3] at ct R3
 haveI g3:cM (r.own ri) H2 H3:=by rw [<- e3];exact cM.set (DY ri hm)
 have hj:=(gu h3).1
 haveI hbl:=hO.bslen hm
 have hpg:=hO.pg s hm
 haveI hpp:=hO.p
 haveI hs1:jd H3 s.sh s.t s.pg s.sz (s.bs.set j true):=R3.shelf { s with bs:=s.bs.set j true } (aae.mpr ⟨s,hm,by simp⟩)
 haveI vb:=sW R3 (s:={ s with bs:=s.bs.set j true }) hs1 j ⟨hpg.1,by show s.pg<1000;exact id (qw 0x3e8a09000028a18110912 hpg.2 hpp.2)⟩ ⟨by exact bO 0xf0980,by exact bP 0x3e8a0f90003e8a10110112 hj hbl⟩
 dsimp only at vb
 refine bH (upd l1 "there" (.int (s.pg*r.len+j*s.sz))) λl2 el2=> ?_
 haveI t2:mW ⟨l1,H2⟩= .ok .next ⟨l2,H3⟩:=by
  exists c1,c3,aS R2 (f := "begin") ⟨by decide,by decide,by decide⟩,mt,ct,vb,el2
 have hsz:=hO.szpos hm
 haveI hlen':=hO.len
 obtain ⟨q',i0,i2,i3,i4,i5⟩:=BV R3 O3 (pl:=pl) (th:=s.pg*r.len+j*s.sz) (z:=s.sz) ⟨by exact cI 0x98019811 hsz.1,by exact qw 0x3e8a0800003ca18110812 hsz.2 hlen'.2⟩ hpl (λi j1 j2=>by
   obtain ⟨u1,u2,_⟩:=nv hO hm (k:=j) (by exact bO 0xf0980) (by exact bP 0x1f0f910111 hj) j1 j2
   exact ⟨u1,u2⟩) (l:=l2) (ah el2 ∅ c1) (ah el2 ∅ c2) (ah el2 ∅ c4) (by rw [<- el2];simp [upd])
 obtain ⟨l',H'⟩:=q'
 dsimp only at i2 i3 i4 i5
 refine kG ⟨_,H',a9 (m:=pC) (q:=⟨l',H'⟩) rfl (by rw [e0];exact ak t1 (ak t2 (ak i0 (by exists i4,i5)))),i2,Rm.Ok.setCs R3 O3 (wR _ _ _ _),⟨rfl,rfl,rfl,rfl,rfl,rfl,rfl⟩,?_,((cM.pre p2).trans g3).trans (i3.mono λi hi _=> ?_),?_,rfl⟩
 ·exact oM hs _
 ·rw [aag.mp hi];exact DW ri r
 ·show Rm.own ri { r with ss:=setBs r.ss s.pg (s.bs.set j true) }=_
  unfold Rm.own
  dsimp only
  rw [uu,nu]
end
theorem vg {H:Hp} {l:bk} {n:Nat} {ns:List Int} (h:H[n]? = some (.list (ns.map V.int))) (hl:ns.length<1000000):bR [.ref n] ⟨l,H⟩= .ok (.ref H.length) ⟨l,H++[.list ((cH ns).map V.int)]⟩:=by
 unfold bR;dsimp only;rw [h];dsimp only;rw [oI];exact if_pos hl
theorem ui {H:Hp} {l:bk} {n:Nat} {ps:List (Int×Int)} (h:H[n]? = some (.list (ps.map aO))) (hl:ps.length<1000000):bR [.ref n] ⟨l,H⟩= .ok (.ref H.length) ⟨l,H++[.list ((mP ps).map aO)]⟩:=by
 cases ps with
 | nil =>
  haveI:mP []=[]:=List.Perm.eq_nil (lf [])
  unfold bR;dsimp only;rw [h,this];rfl
 | cons p ps =>
  haveI h1:eD rt ((p::ps).map aO)=none:=by
   rw [aas];rfl
  unfold bR;dsimp only;rw [h];dsimp only;rw [h1];dsimp only;rw [wu];exact if_pos hl
theorem Hz {H:Hp} {l:bk} {n:Nat} {ps:List (Int×Int)} {b:Int} (h:H[n]? = some (.list (ps.map aO))) (hl:ps.length<=1000000) (hb:0<=b):zo (.ref n) (.int b) ⟨l,H⟩= .ok (.ref H.length) ⟨l,H++[.list ((ps.take b.toNat).map aO)]⟩:=by
 haveI:0<=b/\(ps.map aO).length<=1000000:=⟨hb,by simpa using hl⟩
 unfold zo;dsimp only;rw [bY h];dsimp only;rw [if_pos this,List.map_take]
theorem Dd {caps:List String} {x:String} {tst:Cm Bool} {elt:Cm V} {l:bk} {mi:Cm It} {H H1:Hp} {n:Nat} {ps:List (Int×Int)}
  (hmi:mi ⟨l,H⟩= .ok ⟨ps.map aO,λH=>ax (.ref n) H=some (ps.map aO)⟩ ⟨l,H1⟩) (hn:H1[n]? = some (.list (ps.map aO))) (hlen:ps.length<=1000000)
  (hstep:∀p:Int×Int,bN (aY x) tst elt (gD caps l) (aO p) H1= .ok (some (.int p.2)) H1) :
  cP caps mi (aY x) tst elt ⟨l,H⟩= .ok (.ref H1.length) ⟨l,H1++[.list ((ps.map (·.2)).map V.int)]⟩:=by
 let ψ : V->Option V:=λv=>match v with | .tup [_,b]=>some b | _=>none
 haveI hc:=io (g:=λH=>ax (.ref n) H=some (ps.map aO)) (bd:=aY x) (tst:=tst) (elt:=elt) (lc:=gD caps l) (H:=H1) (bY hn) ψ (ps.map aO) λv hv=>by
  obtain ⟨p,_,rfl⟩:=aae.mp hv
  exact hstep p
 haveI e:(ps.map aO).filterMap ψ = (ps.map (·.2)).map V.int:=by rw [List.filterMap_map,aaQ,<- List.filterMap_eq_map];rfl
 rw [e] at hc
 exact ip hmi (by simpa using hlen) hc
theorem Dy {n:Nat} {ks:List (Int×Int)} {l:bk} {H:Hp} (hn:H[n]? = some (.list (ks.map aO))):eA (.ref n) ⟨l,H⟩= .ok ⟨ks.map aO,λH=>ax (.ref n) H=some (ks.map aO)⟩ ⟨l,H⟩:=by
 rw [qL,bY hn]
theorem AV {ri:Nat} {r:Rm}:∀i∈r.dep ri,i∈r.own ri\/i=r.pl\/i=r.m:=λi hi=>by
 unfold Rm.dep at hi
 unfold Rm.own
 simp at hi ⊢
 rcases hi with h | h | h | h | h | h | h
 ·exact .inl (.inl h)
 ·exact .inr (.inl h)
 ·exact .inr (.inr h)
 ·exact .inl (.inr (.inl h))
 ·exact .inl (.inr (.inr (.inl h)))
 ·exact .inl (.inr (.inr (.inr (.inl h))))
 ·exact .inl (.inr (.inr (.inr (.inr h))))
def GL (ri:Nat) (z:Int) (a b c:Nat) (l:bk):Prop:=l "self" = some (.inst "Room" ri)/\l "size" = some (.int z)/\l "stay" = some (.ref b)/\l "moves" = some (.ref c)/\l "pages" = some (.ref a)
theorem GL.upd {ri:Nat} {z:Int} {a b c:Nat} {l:bk} (h:GL ri z a b c l) {x:String} {v:V} (hx:x = "page" \/ x = "slot"):GL ri z a b c (Mine.Lake.upd l x v):=by
 obtain ⟨h1,h2,h3,h4,h5⟩:=h
 rcases hx with rfl | rfl
 ·exact ⟨by simpa [Mine.Lake.upd] using h1,by simpa [Mine.Lake.upd] using h2,by simpa [Mine.Lake.upd] using h3,by simpa [Mine.Lake.upd] using h4,by simpa [Mine.Lake.upd] using h5⟩
 ·exact ⟨by simpa [Mine.Lake.upd] using h1,by simpa [Mine.Lake.upd] using h2,by simpa [Mine.Lake.upd] using h3,by simpa [Mine.Lake.upd] using h4,by simpa [Mine.Lake.upd] using h5⟩
noncomputable def De (z:Int):List Int->List (Int×Int)->List Int
 | cs,[]=>cs
 | cs,m::ms=>De z (BX m.1 m.2 cs (cg z)) ms
structure GI (H0:Hp) (ri:Nat) (r:Rm) (z:Int) (F0:Vw) (stay zs:List Int) (a b c:Nat) (Mt:List (Int×Int)) (Ft:Vw) (Ct:List Int) (todo:List (Int×Int)) (H:Hp) (r':Rm) (acc:List (Int×Int)):Prop where
 at':aF H ri r'
 ok:r'.Ok
 sm:r.Sm r'
 off:∀x,x∉stay->look r'.ss x=F0 x
 on:∀x∈stay,∃bs,look r'.ss x=some (z,bs)
 mv:Ci r.len z stay (look r'.ss) todo
 m:acc++(fj r.len z stay (look r'.ss) todo).1=Mt
 f:(fj r.len z stay (look r'.ss) todo).2=Ft
 hc:H[c]? = some (.list (acc.map aO))
 ha:H[a]? = some (.list (zs.map V.int))
 hb:H[b]? = some (.list (stay.map V.int))
 chg:cM (c::r.own ri) H0 H
 own:r'.own ri=r.own ri
 few:acc.length+todo.length<=50000
 cl:De z r'.cs (fj r.len z stay (look r'.ss) todo).1=Ct
structure GA (ri:Nat) (r:Rm) (a b c:Nat):Prop where
 ca:c≠a
 cb:c≠b
 co:c∉r.own ri
 cp:c≠r.pl
 cm:c≠r.m
 ao:a∉r.own ri
 bo:b∉r.own ri
section
variable {H0:Hp} {ri:Nat} {r:Rm} {z:Int} {F0:Vw} {stay zs:List Int} {a b c:Nat} {Mt:List (Int×Int)} {Ft:Vw} {Ct:List Int} (hA:GA ri r a b c) (hst:stay.length<=40)
include hA hst
theorem Du {g:Int} {k:Nat} {todo:List (Int×Int)} {l:bk} {H:Hp} {r':Rm} {acc:List (Int×Int)} (hI:GI H0 ri r z F0 stay zs a b c Mt Ft Ct ((g,(k:Int))::todo) H r' acc) (hl:GL ri z a b c l) (h1:l "page" = some (.int g)) (h2:l "slot" = some (.int k))
  (hg:g∉stay) {bs0:List Bool} (hF:F0 g=some (z,bs0)) (hk:bs0[k]? = some true):∃H' r'' acc',A3 (gH ⟨l,H⟩= .ok .next ⟨l,H'⟩) (GI H0 ri r z F0 stay zs a b c Mt Ft Ct todo H' r'' acc') (cM (c::r.own ri) H H'):=by
 refine nK λG kG=> ?_
 obtain ⟨s,hs,y1,y2⟩:=bi (ss:=r'.ss) (v:=(z,bs0)) (by rw [hI.off g hg];exact hF)
 dsimp only at y1 y2
 obtain ⟨hm,ep⟩:=aJ hs
 obtain ⟨l1,l2,l3,l4,l5⟩:=hl
 have hR:=hI.at'
 have hO:=hI.ok
 have hkl:=(aab.mp hk).1
 haveI hbl:=hO.bslen hm
 have hpg:=hO.pg s hm
 haveI hpp:=hO.p
 have elen:r'.len=r.len:=hI.sm.len
 haveI vb:=sW hR (hR.shelf s hm) k ⟨hpg.1,by exact qw 0x3e8a09000028a18110912 hpg.2 hpp.2⟩ ⟨by exact bO 0xf0980,by rw [y2] at hbl;exact id (bP 0x3e8a0f90003e8a10110112 hkl hbl)⟩
 rw [ep,y1,elen] at vb
 obtain ⟨hfind,hmv⟩:=hI.mv
 obtain ⟨h,hh⟩:=aaR.mp hfind
 obtain ⟨v,j,hv,hj⟩:=pK (List.find?_some hh)
 obtain ⟨bsh,hbh⟩:=hI.on h (aaT hh)
 rw [hbh] at hv
 cases hv
 have est:=sU (len:=r.len) (z:=z) (g,(k:Int)) hh hbh hj
 obtain ⟨r2,H2,k1,k2,k3,k4,k5,k6,k7,k8⟩:=FW hR hO (n:=b) (pl:=g*r.len+k*z) hI.hb hI.on hst (λi i1 i2=>by
  obtain ⟨u1,u2,_⟩:=nv hO hm (k:=k) (by exact bO 0xf0980) (by rw [y2];exact id (bP 0x1f0f910111 hkl)) i1 (by rw [y1];exact i2)
  rw [ep,y1,elen] at u1 u2
  exact ⟨u1,u2⟩) hh hbh hj
 rw [elen] at k1
 have eo:r'.own ri=r.own ri:=hI.own
 rw [eo] at k6 k7
 have c2:=k6.get hI.hc hA.co
 haveI a2:=k6.get hI.ha hA.ao
 haveI b2:=k6.get hI.hb hA.bo
 have hfew:=hI.few
 rw [aau] at hfew
 have hap:=uh (aO (g*r.len+k*z,h*r.len+j*z)) l H2 c2 (by simp;exact id (bP 0xf4240a0100c350a191c0c011 hfew))
 haveI kd:fQ (.ref c) ⟨l,H⟩= .ok true ⟨l,H⟩:=by rw [xr,hI.hc]
 haveI hcl:=(aab.mp c2).1
 have C3:cM [c] H2 (H2.set c (.list (acc.map aO++[aO (g*r.len+k*z,h*r.len+j*z)]))):=cM.set (by simp)
 have em:=hI.m
 have ef:=hI.f
 have ec:=hI.cl
 rw [oP,est] at em ef ec
 rw [est] at hmv
 refine kG ⟨_,r2,acc++[(g*r.len+k*z,h*r.len+j*z)],?_,⟨k2.chg C3 λi hi hx=> ?_,k3,hI.sm.trans k4,λx hx=> ?_,λx hx=> ?_,?_,?_,?_,?_,C3.get a2 (by simpa using hA.ca.symm),C3.get b2 (by simpa using hA.cb.symm),?_,k7,?_,?_⟩,?_⟩
 ·exists l1,l2,l3,l4,h1,h2,kd,aS hR (f := "moved") ⟨by decide,by decide,by decide⟩,aS hR (f := "begin") ⟨by decide,by decide,by decide⟩,bf hR,cK hR hs,vb,k1,hap
 ·rw [aag.mp hx] at hi
  rcases AV c hi with h | h | h
  ·rw [k7] at h;exact hA.co h
  ·rw [(hI.sm.trans k4).pl] at h;exact hA.cp h
  ·rw [(hI.sm.trans k4).m] at h;exact hA.cm h
 ·rw [k5]
  haveI:x≠h:=λe=>hx (e▸aaT hh)
  rw [dm _ _ this]
  exact hI.off x hx
 ·rw [k5]
  by_cases e:x=h
  ·subst e;exact ⟨_,bM _ _ _⟩
  ·rw [dm _ _ e];exact hI.on x hx
 ·rw [k5];exact hmv
 ·rw [k5,aad];exact em
 ·rw [k5];exact ef
 ·rw [aaB hcl];simp
 ·exact (hI.chg.trans (k6.mono λi hi _=> .tail _ hi)).trans (C3.mono λi hi _=>by rw [aag.mp hi];exact .head _)
 ·simp;exact id (bP 0xc350a1190cc000c350a191c0c011 hfew)
 ·rw [k5,k8,elen];exact ec
 ·exact (k6.mono λi hi _=> .tail _ hi).trans (C3.mono λi hi _=>by rw [aag.mp hi];exact .head _)
theorem Dt {g:Int} {ys:List Int} {l:bk} {H:Hp} {r':Rm} {acc:List (Int×Int)} (hI:GI H0 ri r z F0 stay zs a b c Mt Ft Ct (b9 F0 stay (g::ys)) H r' acc) (hl:GL ri z a b c l) (hown:∀i∈c::r.own ri,i<H.length) (hF:∃bs,F0 g=some (z,bs)) :
  ∃l' H' r'' acc',A4 (((aY "page" (.int g)).b λ_=>eO) ⟨l,H⟩= .ok .next ⟨l',H'⟩) (GI H0 ri r z F0 stay zs a b c Mt Ft Ct (b9 F0 stay ys) H' r'' acc') (GL ri z a b c l') (cM (c::r.own ri) H H'):=by
 refine nK λG kG=> ?_
 obtain ⟨bs,hF⟩:=hF
 have hl1:=hl.upd (x := "page") (v:= .int g) (.inl rfl)
 have hp1:upd l "page" (.int g) "page" = some (.int g):=j5 _ _ _
 refine bH (upd l "page" (.int g)) λl1 el1=> ?_
 rw [el1] at hl1 hp1
 have hin:rk (.int g) (.ref b) ⟨l1,H⟩= .ok (decide (g∈stay)) ⟨l1,H⟩:=qK (q:=⟨l1,H⟩) hI.hb
 by_cases hg:g∈stay
 ·rw [decide_eq_true hg] at hin
  haveI e:b9 F0 stay (g::ys)=b9 F0 stay ys:=by unfold b9;rw [aaS,if_pos hg];rfl
  rw [e] at hI
  refine kG ⟨l1,H,r',acc,?_,hI,hl1,cM.refl _ _⟩
  haveI st1:=hl1.2.2.1
  exists el1,hp1,st1,hin
 ·rw [decide_eq_false hg] at hin
  have e:b9 F0 stay (g::ys)=(bX 0 bs).map (λk=>(g,k))++b9 F0 stay ys:=by
   unfold b9;rw [aaS,if_neg hg];unfold tK;rw [hF]
  rw [e] at hI
  obtain ⟨s,hs,y1,y2⟩:=bi (ss:=r'.ss) (v:=(z,bs)) (by rw [hI.off g hg];exact hF)
  dsimp only at y1 y2
  obtain ⟨hm,ep⟩:=aJ hs
  have hR:=hI.at'
  have hS:=hR.shelf s hm
  haveI hgo:=EE hS (hI.ok.bslen hm)
  rw [y2] at hgo
  haveI mg:∀l,db "Shelf" "gone" (.inst "Shelf" s.sh) ⟨l,H⟩= .ok () ⟨l,H⟩:=λl=>dy hS.ob rfl
  refine bH (H++[O.list ((bX 0 bs).map V.int)]) λH1 e1=> ?_
  rw [e1] at hgo
  have p1:H<+:H1:=⟨_,e1⟩
  have x1:H1[H.length]? = some (.list ((bX 0 bs).map V.int)):=by rw [<- e1];simp
  haveI hI1:GI H0 ri r z F0 stay zs a b c Mt Ft Ct ((bX 0 bs).map (λk=>(g,k))++b9 F0 stay ys) H1 r' acc :=
   ⟨hI.at'.pre p1,hI.ok,hI.sm,hI.off,hI.on,hI.mv,hI.m,hI.f,aE p1 hI.hc,aE p1 hI.ha,aE p1 hI.hb,hI.chg.trans (cM.pre p1),hI.own,hI.few,hI.cl⟩
  obtain ⟨q',hq,ks,r2,acc2,ek,_,i1,i2,i3,i4,i5⟩:=fE (g:=λH'=>ax (.ref H.length) H'=some ((bX 0 bs).map V.int)) (bd:=aY "slot") (body:=gH)
   (λrem q=> ∃(ks:List Int) (r':Rm) (acc:List (Int×Int)),rem=ks.map V.int/\(∀k∈ks,k∈bX 0 bs)/\GI H0 ri r z F0 stay zs a b c Mt Ft Ct (ks.map (λk=>(g,k))++b9 F0 stay ys) q.H r' acc/\GL ri z a b c q.l/\q.l "page" = some (.int g)/\q.H[H.length]? = some (.list ((bX 0 bs).map V.int))/\cM (c::r.own ri) H1 q.H) (λx rem q hq=>by
    obtain ⟨ks,r',acc,e,w1,w2,w3,w4,w5,w6⟩:=hq
    obtain ⟨l,Hq⟩:=q
    dsimp only at w2 w3 w4 w5 w6
    cases ks with
    | nil=>simp at e
    | cons k ks =>
     obtain ⟨rfl,rfl⟩:x= .int k/\rem=ks.map V.int:=by simpa using e
     obtain ⟨j,ej,hj⟩:=f9 bs 0 k (w1 k (.head _))
     rw [aa6] at ej
     subst ej
     have w3':=w3.upd (x := "slot") (v:= .int (j:Int)) (.inr rfl)
     obtain ⟨H',r2,acc2,v1,v2,v3⟩:=Du hA hst (l:=upd l "slot" (.int (j:Int))) w2 w3' (ah rfl ∅ w4) (by simp [upd]) hg hF hj
     have x2:=v3.get w5 λhx=>by haveI:=hown _ hx;exact id (bO 0x909600111 this)
     exact ⟨⟨upd l "slot" (.int (j:Int)),H'⟩,by rw [pL,y8];exact v1,bY x2,ks,r2,acc2,rfl,λk' hk'=>w1 k' (.tail _ hk'),v2,w3',ah rfl ∅ w4,x2,w6.trans v3⟩) _ ⟨l1,H1⟩ ⟨bX 0 bs,r',acc,rfl,λk hk=>hk,hI1,hl1,hp1,x1,cM.refl _ _⟩
  cases ks with
  | cons _ _=>simp at ek
  | nil =>
  obtain ⟨l2,H2⟩:=q'
  refine kG ⟨l2,H2,r2,acc2,?_,i1,i2,(cM.pre p1).trans i5⟩
  haveI st1:=hl1.2.2.1
  haveI se1:=hl1.1
  exists el1,hp1,st1,hin,se1,bf hR,cK hR hs,mg,hgo,dg x1
  exact hq
end
theorem u8 {p len z:Int} {F:Vw} (hz:1<=len.fdiv z):0<=cR p len F z:=by
 unfold cR
 haveI:mQ ((bW p F z).map (iy F))=((((bW p F z).map (dA F)).sum:Nat):Int):=uw (dA F) _
 rw [this]
 exact (dH (by exact dE 0x1900fce098019811 hz) hz).1
theorem Er {p len z:Int} (hp:p<=40) {F:Vw}:(br p len F z).length<=40:=by
 rw [nx.length_eq,aak,List.length_take]
 haveI h1:=(jY (p:=p) (F:=F) (z:=z)).length_eq
 rw [aak] at h1
 haveI h2:=ux p hp F z
 exact id (lZ 0x28a200201000028a10110213 h1 h2 (Nat.min_le_right _ _))
structure GV (ri:Nat) (z per:Int) (a:Nat) (l:bk):Prop where
 s:l "self" = some (.inst "Room" ri)
 z:l "size" = some (.int z)
 p:l "per" = some (.int per)
 g:l "pages" = some (.ref a)
theorem GV.upd {ri a:Nat} {z per:Int} {l l':bk} {x:String} {v:V} (h:GV ri z per a l) (e:upd l x v=l') (n1 : "self" ≠ x) (n2 : "size" ≠ x) (n3 : "per" ≠ x) (n4 : "pages" ≠ x):GV ri z per a l' :=
 ⟨ah e n1 h.s,ah e n2 h.z,ah e n3 h.p,ah e n4 h.g⟩
def IS (F:Vw) (z:Int) (zs:List Int):Prop:= ∀g∈zs,∃bs,F g=some (z,bs)
inductive G2 (ri:Nat) (z per:Int) (zs:List Int) (l0:bk) (H:Hp):Prop
 | mk (l1 l2:bk) (H1:Hp) (a:Nat) (t1:gU ⟨l0,H⟩= .ok .next ⟨l1,H⟩) (t2:lD ⟨l1,H⟩= .ok .next ⟨l2,H1⟩) (g:GV ri z per a l2) (p:H<+:H1) (x:H1[a]? = some (.list (zs.map V.int))) (n:H.length<=a)
inductive G3 (ri:Nat) (z per m:Int) (a:Nat) (l:bk) (H:Hp):Prop
 | mk (l':bk) (H':Hp) (t:lE ⟨l,H⟩= .ok .next ⟨l',H'⟩) (g:GV ri z per a l') (m:l' "many" = some (.int m)) (p:H<+:H')
inductive G4 (ri:Nat) (z per m:Int) (a:Nat) (ps:List (Int×Int)) (l:bk) (H:Hp):Prop
 | mk (l':bk) (H':Hp) (n:Nat) (t:lF ⟨l,H⟩= .ok .next ⟨l',H'⟩) (g:GV ri z per a l') (m:l' "many" = some (.int m)) (k:l' "ranks" = some (.ref n)) (p:H<+:H') (x:H'[n]? = some (.list (ps.map aO)))
inductive G6 (ri:Nat) (z per:Int) (a:Nat) (stay:List Int) (l:bk) (H:Hp):Prop
 | mk (l' l'':bk) (H' H'':Hp) (b:Nat) (t5:gV ⟨l,H⟩= .ok .next ⟨l',H'⟩) (t6:gW ⟨l',H'⟩= .ok .next ⟨l'',H''⟩) (g:GL ri z a b H'.length l'') (p:H<+:H'') (x:H''[b]? = some (.list (stay.map V.int))) (y:H''[H'.length]? = some (.list [])) (n:H.length<=b) (n2:b<H'.length) (n3:H'.length<H''.length)
section
variable {H:Hp} {ri:Nat} {r:Rm} (hR:aF H ri r) (hO:r.Ok)
include hR hO
theorem G7 {z:Int} (hzx:z∈r.xs):G2 ri z (r.len.fdiv z) (bW r.p (look r.ss) z) (aX ["self", "size"] [.inst "Room" ri,.int z]) H:=by
 generalize e0:aX ["self", "size"] [.inst "Room" ri,.int z]=l0
 have a1:l0 "self" = some (.inst "Room" ri):=e0▸rfl
 have a2:l0 "size" = some (.int z):=e0▸rfl
 haveI hper:=Ar hR hO hzx
 haveI hpm:∀l,db "Plan" "per" (.inst "Plan" r.pl) ⟨l,H⟩= .ok () ⟨l,H⟩:=λl=>dy hR.plan (Eb _ _ _)
 generalize el1:upd l0 "per" (.int (r.len.fdiv z))=l1
 haveI t1:gU ⟨l0,H⟩= .ok .next ⟨l1,H⟩:=by exists a1,a2,fK hR,hpm,hper,el1
 have b1:l1 "self" = some (.inst "Room" ri):=ah el1 ∅ a1
 have b2:l1 "size" = some (.int z):=ah el1 ∅ a2
 obtain ⟨a,H1,hof,p1,x1,ha⟩:=uU hR hO z
 rw [hO.ofSz] at x1
 generalize el2:upd l1 "pages" (.ref a)=l2
 exact ⟨l1,l2,H1,a,t1,(by exists b1,b2,aS hR (f := "of_size") ⟨by decide,by decide,by decide⟩,hof,el2),⟨ah el2 ∅ b1,ah el2 ∅ b2,ah el2 ∅ (az el1),az el2⟩,p1,x1,ha⟩
theorem A1 {z g:Int} {bs:List Bool} (hb:look r.ss g=some (z,bs)) (l:bk):∃s H',A4 (dz r.ss g=some s) (∀l,db "Shelf" "out" (.inst "Shelf" s.sh) ⟨l,H⟩= .ok () ⟨l,H⟩) (bA (bQ) [.inst "Shelf" s.sh] ⟨l,H⟩= .ok (.int (iy (look r.ss) g)) ⟨l,H'⟩) (H<+:H'):=by
 obtain ⟨s,hs,y1,y2⟩:=bi hb
 obtain ⟨mo,co⟩:=xw hR hO (aJ hs).1 l
 haveI hE:iy (look r.ss) g=((s.bs.count true:Nat):Int):=by unfold iy dA;rw [hb,y2]
 rw [<- hE] at co
 exact ⟨s,_,hs,mo,co,aaz _ _⟩
theorem IA {z per:Int} {a:Nat} {zs:List Int} {l:bk} (hl:GV ri z per a l) (x:H[a]? = some (.list (zs.map V.int))) (hz:zs.length<=40) (hat:IS (look r.ss) z zs):G3 ri z per (mQ (zs.map (iy (look r.ss)))) a l H:=by
 haveI hc:∃H',gK ⟨l,H⟩= .ok (.ref H'.length) ⟨l,H'++[.list (zs.filterMap λg=>some (V.int (iy (look r.ss) g)))]⟩/\H<+:H':=by
  unfold gK
  refine dQ (n:=a) (ks:=zs) ?_ x (aam hz ∅) (λg=>some (V.int (iy (look r.ss) g))) λg hg Hx hp=> ?_
  ·exists hl.g
   exact dg x
  ·obtain ⟨bs,hb⟩:=hat g hg
   obtain ⟨s,H',hs,mo,co,hp'⟩:=A1 (hR.pre hp) hO hb (upd (gD ["self"] l) "page" (.int g))
   haveI d1:upd (gD ["self"] l) "page" (.int g) "self" = some (.inst "Room" ri):=fZ ∅ ∅ hl.s
   exact ⟨_,eJ (H2:=Hx) rfl (by exists d1,bf (hR.pre hp),cK (hR.pre hp) hs,mo,co),hp'⟩
 obtain ⟨H2,hc,p2⟩:=hc
 generalize e3:H2++[O.list (zs.filterMap λg=>some (V.int (iy (look r.ss) g)))]=H3 at hc
 haveI x3:H3[H2.length]? = some (.list ((zs.map (iy (look r.ss))).map V.int)):=by rw [<- e3];simp [Function.comp_def]
 haveI hsum:=Gs (l:=l) x3 (by rw [aak];exact aam hz ∅)
 generalize el:upd l "many" (.int (mQ (zs.map (iy (look r.ss)))))=l3
 exact ⟨l3,H3,(by exists hc,hsum,el),hl.upd el ∅ ∅ ∅ ∅,az el,p2.trans ⟨_,e3⟩⟩
theorem IB {z per m:Int} {a:Nat} {l:bk} (hl:GV ri z per a l) (hm:l "many" = some (.int m)) (x:H[a]? = some (.list ((bW r.p (look r.ss) z).map V.int))) (hz:(bW r.p (look r.ss) z).length<=40) (hat:IS (look r.ss) z (bW r.p (look r.ss) z)):G4 ri z per m a (di r.p (look r.ss) z) l H:=by
 generalize ezs:bW r.p (look r.ss) z=zs at *
 haveI hc:∃H',gL ⟨l,H⟩= .ok (.ref H'.length) ⟨l,H'++[.list (zs.filterMap λg=>some (aO (-iy (look r.ss) g,g)))]⟩/\H<+:H':=by
  unfold gL
  refine dQ (n:=a) (ks:=zs) ?_ x (aam hz ∅) (λg=>some (aO (-iy (look r.ss) g,g))) λg hg Hx hp=> ?_
  ·exists hl.g
   exact dg x
  ·obtain ⟨bs,hb⟩:=hat g hg
   obtain ⟨s,H',hs,mo,co,hp'⟩:=A1 (hR.pre hp) hO hb (upd (gD ["self"] l) "page" (.int g))
   haveI d1:upd (gD ["self"] l) "page" (.int g) "self" = some (.inst "Room" ri):=fZ ∅ ∅ hl.s
   exact ⟨_,eJ (H2:=Hx) rfl (by exists d1,bf (hR.pre hp),cK (hR.pre hp) hs,mo,co),hp'⟩
 obtain ⟨H4,hc,p4⟩:=hc
 generalize e5:H4++[O.list (zs.filterMap λg=>some (aO (-iy (look r.ss) g,g)))]=H5 at hc
 haveI x5:H5[H4.length]? = some (.list ((zs.map λg=>(-iy (look r.ss) g,g)).map aO)):=by rw [<- e5];simp [Function.comp_def]
 haveI hsrt:=ui (l:=l) x5 (by rw [aak];exact Nat.lt_of_le_of_lt hz ∅)
 haveI ernk:mP (zs.map λg=>(-iy (look r.ss) g,g))=di r.p (look r.ss) z:=by unfold di;rw [ezs]
 rw [ernk] at hsrt
 generalize e6:H5++[O.list ((di r.p (look r.ss) z).map aO)]=H6 at hsrt
 generalize el:upd l "ranks" (.ref H5.length)=l4
 exact ⟨l4,H6,H5.length,(by exists hc,hsrt,el),hl.upd el ∅ ∅ ∅ ∅,ah el ∅ hm,az el,(p4.trans ⟨_,e5⟩).trans ⟨_,e6⟩,by rw [<- e6];simp⟩
omit hR in
theorem G8 {z:Int} {a n:Nat} {l:bk} (u1:1<=r.len.fdiv z) (hl:GV ri z (r.len.fdiv z) a l) (hm:l "many" = some (.int (mQ ((bW r.p (look r.ss) z).map (iy (look r.ss)))))) (hk:l "ranks" = some (.ref n)) (x:H[n]? = some (.list ((di r.p (look r.ss) z).map aO))) (hrl:(di r.p (look r.ss) z).length<=40) :
  G6 ri z (r.len.fdiv z) a (br r.p r.len (look r.ss) z) l H:=by
 haveI hned:=u8 (p:=r.p) (F:=look r.ss) u1
 haveI htk:=Hz (l:=l) x (aam hrl ∅) hned
 haveI ened:(mQ ((bW r.p (look r.ss) z).map (iy (look r.ss)))+r.len.fdiv z-1).fdiv (r.len.fdiv z)=cR r.p r.len (look r.ss) z:=rfl
 haveI esty:cH (((di r.p (look r.ss) z).take (cR r.p r.len (look r.ss) z).toNat).map (·.2))=br r.p r.len (look r.ss) z:=rfl
 generalize cR r.p r.len (look r.ss) z=nd at *
 generalize etk:(di r.p (look r.ss) z).take nd.toNat=tk at *
 have htl:tk.length<=40:=by rw [<- etk,List.length_take];exact aam (Nat.min_le_right _ _) hrl
 generalize e7:H++[O.list (tk.map aO)]=H7 at htk
 have x7:H7[H.length]? = some (.list (tk.map aO)):=by rw [<- e7];simp
 generalize mQ ((bW r.p (look r.ss) z).map (iy (look r.ss)))=m at *
 generalize br r.p r.len (look r.ss) z=stay at *
 haveI hc3:gM ⟨l,H⟩= .ok (.ref H7.length) ⟨l,H7++[.list ((tk.map (·.2)).map V.int)]⟩:=by
  unfold gM
  refine Dd (n:=H.length) (ps:=tk) ?_ x7 (aam htl ∅) λp=> ?_
  ·haveI dv:∀q,dq (.int (m+r.len.fdiv z-1)) (.int (r.len.fdiv z)) q= .ok (.int nd) q:=λq=>iD (λh=>by rw [h] at u1;exact absurd u1 ∅) ened
   exists hl.p,hm,hk,dv,htk,Dy x7
  ·haveI hit:∀q,aW (aO p) (.int 1) q= .ok (.int p.2) q:=λq=>rfl
   exact eJ (H2:=H7) rfl (by exists hit)
 generalize e8:H7++[O.list ((tk.map (·.2)).map V.int)]=H8 at hc3
 haveI x8:H8[H7.length]? = some (.list ((tk.map (·.2)).map V.int)):=by rw [<- e8];simp
 haveI hso:=vg (l:=l) x8 (by rw [aak];exact Nat.lt_of_le_of_lt htl ∅)
 rw [esty] at hso
 generalize e9:H8++[O.list (stay.map V.int)]=H9 at hso
 haveI x9:H9[H8.length]? = some (.list (stay.map V.int)):=by rw [<- e9];simp
 generalize el5:upd l "stay" (.ref H8.length)=l5
 haveI t5:gV ⟨l,H⟩= .ok .next ⟨l5,H9⟩:=by exists hc3,hso,el5
 generalize ea:H9++[O.list []]=Ha
 generalize el6:upd l5 "moves" (.ref H9.length)=l6
 haveI t6:gW ⟨l5,H9⟩= .ok .next ⟨l6,Ha⟩:=by exists el6,ea
 haveI g5:=hl.upd el5 ∅ ∅ ∅ ∅
 have g6:=g5.upd el6 ∅ ∅ ∅ ∅
 have q1:H<+:H8:=List.IsPrefix.trans ⟨_,e7⟩ ⟨_,e8⟩
 exact ⟨l5,l6,H9,Ha,H8.length,t5,t6,⟨g6.s,g6.z,ah el6 ∅ (az el5),az el6,g6.g⟩,(q1.trans ⟨_,e9⟩).trans ⟨_,ea⟩,aE ⟨_,ea⟩ x9,by rw [<- ea];simp,q1.length_le,by rw [<- e9];simp,by rw [<- ea];simp⟩
end
inductive Gt (Ha:Hp) (ri:Nat) (r:Rm) (z:Int) (F:Vw) (stay zs:List Int) (a b c:Nat) (Mt:List (Int×Int)) (Ft:Vw) (Ct:List Int) (rem:List V) (q:S):Prop
 | mk (ys:List Int) (r':Rm) (acc:List (Int×Int)) (e:rem=ys.map V.int) (w:∀y∈ys,y∈zs) (i:GI Ha ri r z F stay zs a b c Mt Ft Ct (b9 F stay ys) q.H r' acc) (l:GL ri z a b c q.l)
inductive Gu (H7:Hp) (ri:Nat) (r7:Rm) (z:Int) (Ft:Vw) (stay zs:List Int) (a b c:Nat) (acc:List (Int×Int)) (rem:List V) (q:S):Prop
 | mk (ys:List Int) (e:rem=ys.map V.int) (w:∀y∈ys,y∈zs) (i:GT H7 ri r7 (dY Ft (zs.filter λg => !decide (g∈stay))) (ys.filter λg => !decide (g∈stay)) q) (l:GL ri z a b c q.l) (x:q.H[a]? = some (.list (zs.map V.int))) (y:q.H[b]? = some (.list (stay.map V.int))) (k:q.H[c]? = some (.list (acc.map aO)))
section
variable {Ha:Hp} {ri:Nat} {r:Rm} {z:Int} {F:Vw} {stay zs:List Int} {a b c:Nat} {Mt:List (Int×Int)} {Ft:Vw} {Ct:List Int}
theorem G9 (hA:GA ri r a b c) (hst:stay.length<=40) (hown:∀i∈c::r.own ri,i<Ha.length) (hat:IS F z zs) {x:V} {rem:List V} {q:S} (h:Gt Ha ri r z F stay zs a b c Mt Ft Ct (x::rem) q) :
  ∃q',(aY "page" x).b (λ_=>eO) q= .ok .next q'/\ax (.ref a) q'.H=some (zs.map V.int)/\Gt Ha ri r z F stay zs a b c Mt Ft Ct rem q':=by
 obtain ⟨l,Hq⟩:=q
 cases h with
 | mk ys r' acc e w1 w2 w3 =>
 cases ys with
 | nil=>simp at e
 | cons g ys =>
  obtain ⟨rfl,rfl⟩:x= .int g/\rem=ys.map V.int:=by simpa using e
  obtain ⟨l',H',r'',acc',v1,v2,v3,v4⟩:=Dt hA hst w2 w3 (λi hi=>aaX (hown i hi) w2.chg.len) (hat g (w1 g (.head _)))
  exact ⟨⟨l',H'⟩,v1,bY v2.ha,ys,r'',acc',rfl,λy hy=>w1 y (.tail _ hy),v2,v3⟩
theorem He {H7:Hp} {r7:Rm} {acc:List (Int×Int)} {x:V} {rem:List V} {q:S} (h:Gu H7 ri r7 z Ft stay zs a b c acc (x::rem) q) :
  ∃q',(aY "page" x).b (λ_=>gI) q= .ok .next q'/\ax (.ref a) q'.H=some (zs.map V.int)/\Gu H7 ri r7 z Ft stay zs a b c acc rem q':=by
 obtain ⟨l,Hq⟩:=q
 cases h with
 | mk ys e w0 w1 w2 w3 w4 w5 =>
 cases ys with
 | nil=>simp at e
 | cons g ys =>
  obtain ⟨rfl,rfl⟩:x= .int g/\rem=ys.map V.int:=by simpa using e
  have hl1:=w2.upd (x := "page") (v:= .int g) (.inl rfl)
  generalize el1:upd l "page" (.int g)=l1 at hl1
  have hp1:l1 "page" = some (.int g):=az el1
  have hin:rk (.int g) (.ref b) ⟨l1,Hq⟩= .ok (decide (g∈stay)) ⟨l1,Hq⟩:=qK (q:=⟨l1,Hq⟩) w4
  have st1:=hl1.2.2.1
  by_cases hg:g∈stay
  ·rw [decide_eq_true hg] at hin
   rw [aaV (by simp [hg])] at w1
   exact ⟨⟨l1,Hq⟩,(by exists el1,hp1,st1,hin),bY w3,ys,rfl,λy hy=>w0 y (.tail _ hy),w1,hl1,w3,w4,w5⟩
  ·rw [decide_eq_false hg] at hin
   rw [aaU (by simp [hg])] at w1
   haveI w1':GT H7 ri r7 (dY Ft (zs.filter λg => !decide (g∈stay))) (g::ys.filter λg => !decide (g∈stay)) ⟨l1,Hq⟩:=w1
   obtain ⟨v,H',k1,k2,k3,k4,k5⟩:=w1'.pop
   obtain ⟨rp,hrp,_,hrsm,_⟩:=w1
   have hne:∀ {i:Nat} {xs:List V},Hq[i]? = some (.list xs)->i∉[r7.d]:=λ{i xs} hi hm=>by
    rw [aag.mp hm,<- hrsm.d,hrp.racks] at hi;cases hi
   haveI se1:=hl1.1
   exact ⟨⟨l1,H'⟩,(by exists el1,hp1,se1,st1,hin,k4,k1,k2),bY (k5.get w3 (hne w3)),ys,rfl,λy hy=>w0 y (.tail _ hy),k3 _,hl1,k5.get w3 (hne w3),k5.get w4 (hne w4),k5.get w5 (hne w5)⟩
end
section
variable {H:Hp} {ri:Nat} {r:Rm} (hR:aF H ri r) (hO:r.Ok)
include hR hO
theorem ED {z:Int} (hzx:z∈r.xs):∃n r' H',JL (jx [.inst "Room" ri,.int z] H= .ok (.ref n) H') (H.length<=n) (H'[n]? = some (.list ((gN r.p r.len (look r.ss) z).map aO))) (aF H' ri r') r'.Ok (r.Sm r') (look r'.ss=B2 r.p r.len (look r.ss) z) (cM (r.own ri) H H') (∀i∈r'.own ri,i∈r.own ri) ((gN r.p r.len (look r.ss) z).length<=50000) (r'.cs=De z r.cs (gN r.p r.len (look r.ss) z)):=by
 refine nK λG kG=> ?_
 obtain ⟨u1,u2⟩:=qI hR hO hzx
 have hp40:=hO.p.2
 have hat:IS (look r.ss) z (bW r.p (look r.ss) z):=λg hg=>uY hg
 haveI hslots:∀g v,look r.ss g=some v->v.1=z->(v.2.length:Int)=r.len.fdiv z:=λg v hv hz=>by
  obtain ⟨s,hs,y1,y2⟩:=bi hv
  rw [<- y2,<- hz,<- y1]
  exact hO.slots s (aJ hs).1
 haveI hokk:=zX (p:=r.p) hslots u1
 have hzl:=ux r.p hp40 (look r.ss) z
 have hrl:(di r.p (look r.ss) z).length<=40:=by
  haveI h1:=(jY (p:=r.p) (F:=look r.ss) (z:=z)).length_eq
  rw [aak] at h1;exact aam (Nat.le_of_eq h1) hzl
 haveI hstl:=Er (len:=r.len) (z:=z) hp40 (F:=look r.ss)
 haveI hstin:∀g∈br r.p r.len (look r.ss) z,g∈bW r.p (look r.ss) z:=λg hg=>pT hg
 cases G7 hR hO hzx with
 | mk l1 l2 H1 a t1 t2 g2 p1 x1 ha =>
 cases IA (hR.pre p1) hO g2 x1 hzl hat with
 | mk l3 H3 t3 g3 m3 p3 =>
 cases IB (hR.pre (p1.trans p3)) hO g3 m3 (aE p3 x1) hzl hat with
 | mk l4 H6 n4 t4 g4 m4 k4 p4 x4 =>
 cases G8 hO u1 g4 m4 k4 x4 hrl with
 | mk l5 l6 H9 Ha b t5 t6 gl p6 xb xc nb nc na =>
 have P1a:H1<+:Ha:=(p3.trans p4).trans p6
 have P0a:H<+:Ha:=p1.trans P1a
 have xa:=aE P1a x1
 have aH1:a<H1.length:=(aab.mp x1).1
 have lt4:H1.length<=H6.length:=(p3.trans p4).length_le
 have l01:=p1.length_le
 have olt:=Ap hR
 haveI plt:=(aab.mp hR.plan).1
 haveI mlt:=(aab.mp hR.sizes).1
 haveI hA:GA ri r a b H9.length:=⟨by exact λx9=>yU 0x9096322104014311211110015 nb nc aH1 lt4 x9,by exact λx9=>bP 0x9096012110112 nc x9,λh=>by haveI:=olt _ h;exact id (fi [_,_,_,_,_,_] [] 0x90960411250151114311320110016 ha nb nc aH1 lt4 this),by exact λx9=>fi [_,_,_,_,_,_,_] [] 0x909664210611250151114311320110017 ha nb nc aH1 lt4 plt x9,by exact λx9=>fi [_,_,_,_,_,_,_] [] 0x909664210611250151114311320110017 ha nb nc aH1 lt4 mlt x9,λh=>by haveI:=olt _ h;exact id (bP 0x9096011110012 ha this),λh=>by haveI:=olt _ h;exact id (yU 0x9096031124014111320110015 ha nb aH1 lt4 this)⟩
 haveI hown:∀i∈H9.length::r.own ri,i<Ha.length:=λi hi=>by
  rcases aah.mp hi with rfl | hi
  ·exact na
  ·haveI:=olt i hi;exact id (fi [_,_,_,_,_,_,_] [] 0x3615611450104013211211110016 nb nc na lt4 l01 this)
 haveI hits:(b9 (look r.ss) (br r.p r.len (look r.ss) z) (bW r.p (look r.ss) z)).length<=(bW r.p (look r.ss) z).length*1000:=DD _ _ 1000 (λg=>by
  unfold dA
  split
  ·rename_i v hv
   obtain ⟨s,hs,_,y2⟩:=bi hv
   rw [<- y2]
   exact aam List.count_le_length (hO.bslen (aJ hs).1)
  ·exact Nat.zero_le _) _
 haveI eGM:gN r.p r.len (look r.ss) z=(fj r.len z (br r.p r.len (look r.ss) z) (look r.ss) (b9 (look r.ss) (br r.p r.len (look r.ss) z) (bW r.p (look r.ss) z))).1:=rfl
 haveI eGF:B2 r.p r.len (look r.ss) z=dY (fj r.len z (br r.p r.len (look r.ss) z) (look r.ss) (b9 (look r.ss) (br r.p r.len (look r.ss) z) (bW r.p (look r.ss) z))).2 ((bW r.p (look r.ss) z).filter λg => !decide (g∈br r.p r.len (look r.ss) z)):=rfl
 haveI zn:(bW r.p (look r.ss) z).Nodup:=qe
 rw [eGM,eGF] at kG
 generalize br r.p r.len (look r.ss) z=stay at *
 generalize bW r.p (look r.ss) z=zs at *
 generalize eM:(fj r.len z stay (look r.ss) (b9 (look r.ss) stay zs)).1=Mt at *
 generalize eFt:(fj r.len z stay (look r.ss) (b9 (look r.ss) stay zs)).2=Ft at *
 haveI gi0:GI Ha ri r z (look r.ss) stay zs a b H9.length Mt Ft (De z r.cs Mt) (b9 (look r.ss) stay zs) Ha r [] :=
  ⟨hR.pre P0a,hO,Rm.Sm.rfl r,λx _=>rfl,λx hx=>hat x (hstin x hx),hokk,eM,eFt,xc,xa,xb,cM.refl _ _,rfl,by simp;exact aam hits (aam (Nat.mul_le_mul_right 1000 hzl) ∅),by rw [eM]⟩
 obtain ⟨q7,hq7,gt7⟩:=fE (g:=λH'=>ax (.ref a) H'=some (zs.map V.int)) (bd:=aY "page") (body:=eO) (Gt Ha ri r z (look r.ss) stay zs a b H9.length Mt Ft (De z r.cs Mt)) (λx rem q h=>G9 hA hstl hown hat h) _ ⟨l6,Ha⟩ ⟨zs,r,[],rfl,λy hy=>hy,gi0,gl⟩
 obtain ⟨l7,H7⟩:=q7
 cases gt7 with
 | mk ys r7 acc ey _ gi7 gl7 =>
 cases ys with
 | cons _ _=>simp at ey
 | nil =>
 haveI t7:lG ⟨l6,Ha⟩= .ok .next ⟨l7,H7⟩:=bq (bq (g_get gl.2.2.2.2) (dg xa)) hq7
 have em:acc=Mt:=by haveI:=gi7.m;simpa [b9,wq] using this
 haveI ef:look r7.ss=Ft:=by haveI:=gi7.f;simpa [b9,wq] using this
 haveI ec:r7.cs=De z r.cs Mt:=gi7.cl
 obtain ⟨q8,hq8,gu8⟩:=fE (g:=λH'=>ax (.ref a) H'=some (zs.map V.int)) (bd:=aY "page") (body:=gI) (Gu H7 ri r7 z Ft stay zs a b H9.length acc) (λx rem q h=>He h) _ ⟨l7,H7⟩ ⟨zs,rfl,λy hy=>hy,⟨r7,gi7.at',gi7.ok,Rm.Sm.rfl r7,by rw [ef],zn.filter _,λg hg=>by
    obtain ⟨h1,h2⟩:=aaD.mp hg
    obtain ⟨bs,hb⟩:=hat g h1
    exact ⟨_,by rw [gi7.off g (by simpa using h2)];exact hb⟩,cM.refl _ _,λi hi=>hi,rfl⟩,gl7,gi7.ha,gi7.hb,gi7.hc⟩
 obtain ⟨l8,H8⟩:=q8
 cases gu8 with
 | mk ys8 ey8 _ pp8 gl8 z1 z2 z3 =>
 cases ys8 with
 | cons _ _=>simp at ey8
 | nil =>
 obtain ⟨r8,g1,g2,g3,g4,_,_,g7,g8,g9⟩:=pp8
 rw [List.filter_nil,un] at g4
 haveI t8:lH ⟨l7,H7⟩= .ok .next ⟨l8,H8⟩:=bq (bq (g_get gl7.2.2.2.2) (dg gi7.ha)) hq8
 haveI few:=gi7.few
 refine kG ⟨H9.length,r8,H8,a9 (m:=nR) (q:=⟨l8,H8⟩) rfl (ak t1 (ak t2 (ak t3 (ak t4 (ak t5 (ak t6 (ak t7 (ak t8 (bq (g_get gl8.2.2.2.1) rfl))))))))),by exact yU 0x24034010301211110014 nb nc lt4 l01,em▸z3,g1,g2,gi7.sm.trans g3,g4,?_,λi hi=>gi7.own▸g8 i hi,by rw [<- em];exact id (bP 0xc350a0000c350a10c011 few),g9.trans ec⟩
 haveI h1:cM (r.own ri) H H7:=(cM.pre P0a).trans' gi7.chg λi hi=>by
  rcases aah.mp hi with rfl | hi
  ·exact .inr (by exact yU 0x24034010301211110014 nb nc lt4 l01)
  ·exact .inl hi
 exact h1.trans (by rw [gi7.own] at g7;exact g7)
end
theorem qx {H:Hp} {za:Nat} {xs:List Int} (hz:H[za]? = some (.list (xs.map V.int))) (w:Int):gb [.ref za,.int w] H= .ok (.int ((xs.find? λx=>decide (x>=w)).getD 0)) H:=by
 obtain ⟨l0,e0,a1,a2⟩:∃l0,aX ["_law_sizes", "_law_wish"] [.ref za,.int w]=l0/\l0 "_law_sizes" = some (.ref za)/\l0 "_law_wish" = some (.int w):=⟨_,rfl,rfl,rfl⟩
 have hit:ax (.ref za) H=some (xs.map V.int):=bY hz
 obtain ⟨l',hw',hl⟩:=m7 H (g:=λH=>ax (.ref za) H=some (xs.map V.int)) (x := "_law_size") (w := "_law_wish") ∅ (body:=gJ) w hit
  (λl y h1 h2=>by
   by_cases hy:y>=w
   ·rw [if_pos hy];exact bq (bq (g_get h1) (bq (g_get h2) rfl)) (it_t (decide_eq_true hy) (bq (g_get h1) rfl))
   ·rw [if_neg hy];exact bq (bq (g_get h1) (bq (g_get h2) rfl)) (it_f (decide_eq_false hy) rfl)) xs l0 a2
 have s2:lP ⟨l0,H⟩=dD (λH=>ax (.ref za) H=some (xs.map V.int)) (aY "_law_size") (gJ) (xs.map V.int) ⟨l0,H⟩ :=
  bq (bq (g_get a1) (by rw [qL,hit])) rfl
 rw [hl] at s2
 cases hf:xs.find? (λx=>decide (x>=w)) with
 | some y =>
  rw [hf] at s2
  exact a9 (m:=jB) (q:=⟨l',H⟩) rfl (by rw [e0];exact cX s2)
 | none =>
  rw [hf] at s2
  exact a9 (m:=jB) (q:=⟨l',H⟩) rfl (by rw [e0];exact ak s2 rfl)
theorem Dm {p:Int} {F:Vw} {g:Int} (h:g∈lX p F):(0<=g/\g<p)/\ ∃v,F g=some v:=by
 have:=(aaD.mp h).1
 exact ⟨(iF.mp this).1,jS this⟩
theorem C8 {p:Int} {F:Vw} {g:Int} (h:g∈tq p F):(0<=g/\g<p)/\F g=none:=by
 obtain ⟨h1,h2⟩:=aaD.mp h
 exact ⟨bU.mp h1,by simpa using h2⟩
theorem j4 (F:Vw) (g:Int) (v w:Option (Int×List Bool)):cL (cL F g v) g w=cL F g w:=by
 funext x
 by_cases e:x=g<;>simp [cL,e]
theorem Cr (F:Vw) (g:Int) (l:List Int):cL (dY F l) g none=dY F (g::l):=by
 funext x
 unfold dY cL
 by_cases h1:x=g<;>simp [h1]
theorem Ai (F:Vw) (stay:List Int):∀zs:List Int,b9 F stay zs=(zs.filter λg => !decide (g∈stay)).flatMap (tK F)
 | []=>rfl
 | g::zs=>by
  haveI ih:=Ai F stay zs
  unfold b9 at ih ⊢
  rw [aaS,ih]
  by_cases h:g∈stay
  ·rw [if_pos h,aaV (by simp [h])];rfl
  ·rw [if_neg h,aaU (by simp [h]),aaS]
inductive Pl:V->Prop
 | int (i:Int):Pl (.int i)
 | tup (is:List Int):Pl (.tup (is.map V.int))
noncomputable def Di:V->PyData
 | .int i=> .int i
 | _=> .none
noncomputable def u5:V->PyData
 | .int i=> .int i
 | .tup vs=> .tuple (vs.map Di)
 | _=> .none
theorem qo (is:List Int):(is.map V.int).map Di=is.map PyData.int:=by rw [aaQ];rfl
theorem Pl.toD {v:V} (h:Pl v) (H:Hp) (n:Nat):Mine.Lake.toD H (n+2) v=some (u5 v):=by
 cases h with
 | int i=>rfl
 | tup is =>
  show (eD (Mine.Lake.toD H (n+1)) (is.map V.int)).map PyData.tuple=some (.tuple ((is.map V.int).map Di))
  rw [pZ,qo];rfl
theorem Pl.sh {v:V} (h:Pl v):Sh 1 (u5 v):=by
 cases h with
 | int i=>exact Ax _ i
 | tup is =>
  refine Eo λd hd=> ?_
  rw [qo] at hd
  obtain ⟨i,_,rfl⟩:=aae.mp hd
  exact Ax _ _
theorem Pl.eqv {v:V} (h:Pl v):PyData.eqv (u5 v) (u5 v)=true:=by
 cases h with
 | int i=>exact (sP i i).trans (decide_eq_true rfl)
 | tup is =>
  show PyData.eqv (.tuple ((is.map V.int).map Di)) (.tuple ((is.map V.int).map Di))=true
  rw [qo]
  rw [Fd,oD PyData.int sP];exact decide_eq_true rfl
theorem As {H:Hp} {n:Nat}:∀ {vs:List V},(∀v∈vs,Pl v)->eD (toD H (n+2)) vs=some (vs.map u5)
 | [],_=>rfl
 | v::vs,h=>by rw [Ch,(h v (.head _)).toD H n,As λv hv=>h v (.tail _ hv)];rfl
theorem D8:∀ {vs:List V},(∀v∈vs,Pl v)->PyData.eqvAll (vs.map u5) (vs.map u5)=true
 | [],_=>rfl
 | v::vs,h=>by rw [aas,yn,(h v (.head _)).eqv,D8 λv hv=>h v (.tail _ hv)];rfl
structure Rf (H:Hp) (a b:Nat) (vs:List V):Prop where
 a:H[a]? = some (.list vs)
 b:H[b]? = some (.list vs)
 pl:∀v∈vs,Pl v
theorem BI {H:Hp} {n i:Nat} {xs:List V} {ds:List PyData} (h:H[i]? = some (.list xs)) (hd:eD (toD H n) xs=some ds):toD H (n+1) (.ref i)=some (.list ds):=by
 show (match H[i]? with | some (.list xs)=>(eD (toD H n) xs).map PyData.list | _=>none)=_
 rw [h];dsimp only;rw [hd];rfl
theorem HH {vs:List V} (h:∀v∈vs,Pl v):Sh 2 (.list (vs.map u5)):=Bv λd hd=>by
 obtain ⟨v,hv,rfl⟩:=aae.mp hd
 exact (h v hv).sh
theorem Fb {vs:List V} (h:∀v∈vs,Pl v):PyData.eqv (.list (vs.map u5)) (.list (vs.map u5))=true:=by
 exact D8 h
theorem Iz {H:Hp} {l:bk} {v w:V} {d:PyData} (h1:toD H 8 v=some d) (h2:toD H 8 w=some d) {n:Nat} (h3:Sh n d) (hn:n<=64) (h4:PyData.eqv d d=true):tB v w ⟨l,H⟩= .ok true ⟨l,H⟩:=by
 unfold tB Fa;rw [h1,h2,Option.bind_some,Option.bind_some,h3.shaped hn,h4];rfl
theorem Gi {H:Hp} {l:bk} {a b:Nat} {vs:List V} (h:Rf H a b vs):tB (.ref a) (.ref b) ⟨l,H⟩= .ok true ⟨l,H⟩ :=
 Iz (BI h.a (As h.pl)) (BI h.b (As h.pl)) (HH h.pl) ∅ (Fb h.pl)
theorem bj {H:Hp} {i:Nat} {o:O} (h:H[i]? = some o):i<H.length:=(aab.mp h).1
structure Id (c:Nat) (col:Nat->Nat) (F:List Nat) (H:Hp) (col':Nat->Nat) (H':Hp):Prop where
 chg:cM F H H'
 on:∀i∈F,i<H.length->col i=c
 col:∀i,i<H.length->col' i=col i
noncomputable def iP (col:Nat->Nat) (n c:Nat) (O:List Nat):Nat->Nat:=λi=>if i<n then col i else if i∈O then c else 0
theorem cS {col:Nat->Nat} {n c:Nat} {O:List Nat} {i:Nat} (h:i<n):iP col n c O i=col i:=if_pos h
theorem um {col:Nat->Nat} {n c:Nat} {O:List Nat} {i:Nat} (h:¬i<n) (hO:i∈O):iP col n c O i=c:=(if_neg h).trans (if_pos hO)
theorem Id.get {c:Nat} {col col':Nat->Nat} {F:List Nat} {H H':Hp} (e:Id c col F H col' H') {i:Nat} {o:O} (h:H[i]? = some o) (hn:col i≠c):H'[i]? = some o/\col' i=col i :=
 ⟨e.chg.get h λhi=>hn (e.on i hi (bj h)),e.col i (bj h)⟩
structure RG (c:Nat) (col:Nat->Nat) (H:Hp) (p len:Int) (xs:List Int) (ri:Nat) (r:Rm):Prop where
 rm:aF H ri r
 ok:r.Ok
 rp:r.p=p
 rl:r.len=len
 rx:r.xs=xs
 cr:∀i∈r.own ri,col i=c
 cp:col r.pl=0
 cs:col r.m=0
section
variable {c c':Nat} {col col':Nat->Nat} {F:List Nat} {H H':Hp} {p len:Int} {xs:List Int} {ri d k:Nat} {r:Rm} {ms:List bD} {ks:List (Nat×Nat)}
theorem RG.step (h:RG c col H p len xs ri r) {r':Rm} (a:aF H' ri r') (ok:r'.Ok) (sm:r.Sm r') (ch:cM (r.own ri) H H') (ow:∀i∈r'.own ri,i∈r.own ri\/H.length<=i) :
  RG c (iP col H.length c (r'.own ri)) H' p len xs ri r'/\Id c col (r.own ri) H (iP col H.length c (r'.own ri)) H':=by
 refine ⟨⟨a,ok,sm.p.trans h.rp,sm.len.trans h.rl,sm.xs.trans h.rx,λi hi=> ?_,?_,?_⟩,⟨ch,λi hi _=>h.cr i hi,λi hi=>cS hi⟩⟩
 ·by_cases hl:i<H.length
  ·rw [cS hl]
   exact (ow i hi).elim (h.cr i) λh=>absurd hl (Nat.not_lt.mpr h)
  ·exact um hl hi
 ·rw [sm.pl,cS (bj h.rm.plan)];exact h.cp
 ·rw [sm.m,cS (bj h.rm.sizes)];exact h.cs
structure rU (c:Nat) (col:Nat->Nat) (H:Hp) (col':Nat->Nat) (H':Hp):Prop where
 len:H.length<=H'.length
 same:∀i,i<H.length->col i<c\/c+3<=col i->H'[i]? = H[i]?
 col:∀i,i<H.length->col' i=col i
theorem rU.refl (c:Nat) (col:Nat->Nat) (H:Hp):rU c col H col H:=⟨aaL _,λ_ _ _=>rfl,λ_ _=>rfl⟩
theorem rU.trans {col2:Nat->Nat} {H2:Hp} (a:rU c col H col' H') (b:rU c col' H' col2 H2):rU c col H col2 H2 :=
 ⟨aam a.len b.len,λi hi h=>(b.same i (aaX hi a.len) (by rw [a.col i hi];exact h)).trans (a.same i hi h),λi hi=>(b.col i (aaX hi a.len)).trans (a.col i hi)⟩
theorem Id.evo (e:Id c' col F H col' H') (h:c<=c'/\c'<c+3):rU c col H col' H' :=
 ⟨e.chg.len,λi hi ho=>e.chg.same i hi λhF=>by have:=e.on i hF hi;exact ho.elim (λq=>absurd q (Nat.not_lt.mpr (this▸h.1))) λq=>absurd h.2 (Nat.not_lt.mpr (this▸q)),e.col⟩
noncomputable def Jq (c:Nat) (col:Nat->Nat) (n:Nat):List Nat:=(List.range n).filter λi=>decide (c<=col i)&&decide (col i<c+3)
theorem pG {n i:Nat}:i∈Jq c col n↔i<n/\c<=col i/\col i<c+3:=by
 unfold Jq;rw [aaD,List.mem_range,Bool.and_eq_true,decide_eq_true_iff,decide_eq_true_iff]
theorem rU.chg (e:rU c col H col' H'):cM (Jq c col H.length) H H':=⟨e.len,λi hi hp=>e.same i hi (by rw [pG] at hp;omega)⟩
end
theorem Gl {m:Cm Fl} {sel:String->Cm Fl} {q q':S} {f:Fl} (h:m q= .ok f q'):zq m sel q= .ok f q':=by rw [Gv,h]
theorem wW {m:Cm Fl} {sel:String->Cm Fl} {q q' q2:S} {f:Fl} {c:String} (h:m q= .exc c q') (k:sel c q'= .ok f q2):zq m sel q= .ok f q2:=by rw [Gv,h];dsimp only;rw [k]
theorem nn {H:Hp} {l:bk} {n:Nat} {vs:List V} {i:Int} {v:V} (h:H[n]? = some (.list vs)) (h0:0<=i) (h1:i<1000000) (hv:vs[i.toNat]? = some v):aW (.ref n) (.int i) ⟨l,H⟩= .ok v ⟨l,H⟩:=by
 exact DA h ⟨h0,h1⟩ hv
theorem FJ (e:Int×Int):Pl (aO e):= .tup [e.1,e.2]
theorem Ea (es:List (Int×Int)):∀v∈es.map aO,Pl v:=λv hv=>by
 obtain ⟨e,_,rfl⟩:=aae.mp hv
 exact FJ e
theorem sV {p len:Int} {F:Vw} {e:Int×Int} (h:e∈ck p len F):∃(g z:Int) (bs:List Bool) (j:Nat),A3 (F g=some (z,bs)) (bs[j]? = some true) (e=(g*len+j*z,z)):=by
 obtain ⟨g,_,he⟩:=List.mem_flatMap.mp h
 unfold c8 at he
 split at he
 ·rename_i v hv
  obtain ⟨kk,hk,rfl⟩:=aae.mp he
  obtain ⟨j,rfl,hj⟩:=f9 v.2 0 kk hk
  exact ⟨g,v.1,v.2,j,hv,hj,by rw [aa6]⟩
 ·cases he
section
variable {c:Nat} {col:Nat->Nat} {H:Hp} {p len cell more:Int} {xs:List Int} {ri d k za:Nat} {r:Rm} {ms:List bD} {ks:List (Nat×Nat)} {l:bk}
theorem Dr {ss:List bD} {g z:Int} {bs:List Bool} (h:look ss g=some (z,bs)):∃s,A3 (dz ss g=some s) (s.sz=z) (s.bs=bs):=bi h
end
theorem yL:∀ {xs:List Int} {a b:Int},xs.Pairwise (· < ·)->(∀x∈xs,a<x/\x<=b)->a<=b->(xs.length:Int)<=b-a
 | [],a,b,_,_,h=>by simp only [List.length_nil];exact id (qw 0x1e09f810811 h)
 | x::xs,a,b,hp,h,_=>by
  obtain ⟨h1,h2⟩:=aaJ.mp hp
  have hx:=h x (.head _)
  haveI:=yL (a:=x) (b:=b) h2 (λy hy=>⟨h1 y hy,(h y (.tail _ hy)).2⟩) hx.2
  rw [aau];exact id (fi [_] [_,_,_] 0x2e190cf812e0f8110912 hx.1 this)
theorem Ag {n:Nat} {vs:List V} {l:bk} {H:Hp} (hn:H[n]? = some (.list vs)):eA (.ref n) ⟨l,H⟩= .ok ⟨vs,λH=>ax (.ref n) H=some vs⟩ ⟨l,H⟩:=by
 show (match ax (.ref n) H with | some xs=>_ | none=>_)=_
 rw [show ax (.ref n) H=some vs from bY hn]
theorem sS {n:Nat} {vs:List V} {H:Hp} (hn:H[n]? = some (.list vs)):ax (.ref n) H=some vs:=bY hn
section
variable {c:Nat} {col:Nat->Nat} {H:Hp} {p len:Int} {xs:List Int} {ri d k za:Nat} {r:Rm} {ms:List bD} {ks:List (Nat×Nat)} {l:bk}
theorem FI (gs:List Int):∀v∈gs.map V.int,Pl v:=λv hv=>by
 obtain ⟨g,_,rfl⟩:=aae.mp hv
 exact .int g
end
structure PB (f s p len:Int) (l:bk):Prop where
 hp:1<=p/\p<=40
 hl:1<=len/\len<=60
 a:l "_law_script" = some .scr
 f:l "_law_first" = some (.int f)
 s:l "_law_second" = some (.int s)
 p:l "_law_pages" = some (.int p)
 n:l "_law_length" = some (.int len)
noncomputable def Jr (e a b:Int):Cm Fl:=(((((af "_law_first").b λv23=>(Cm.p (V.int 6)).b λv24=>dq v23 v24).b λv25=>(Cm.p (V.int 8)).b λv26=>bw v25 v26).b λv27=>(Cm.p (V.int e)).b λv28=>(ew .Eq v27 v28).b λx29=>Cm.p x29).b λb42=>if b42 then (ay (((Cm.p (V.int 1)).b λv34=>(((af "_law_first").b λv30=>(Cm.p (V.int 48)).b λv31=>dq v30 v31).b λv32=>(Cm.p (V.int a)).b λv33=>bw v32 v33).b λv35=>cY v34 v35).b λv36=>(aY "_law_pages" v36).b λ_=>Cm.p Fl.next) (((Cm.p (V.int 1)).b λv39=>((af "_law_second").b λv37=>(Cm.p (V.int b)).b λv38=>bw v37 v38).b λv40=>cY v39 v40).b λv41=>(aY "_law_length" v41).b λ_=>Cm.p Fl.next)) else (Cm.p Fl.next))
theorem DZ {f s p len:Int} {l:bk} {H:Hp} (h:PB f s p len l) (e a b:Int) (ha:1<=a/\a<=40) (hb:1<=b/\b<=60):∃p' len' l',Jr e a b ⟨l,H⟩= .ok .next ⟨l',H⟩/\PB f s p' len' l':=by
 refine nK λG kG=> ?_
 have d6:∀q,dq (.int f) (.int 6) q= .ok (.int (f.fdiv 6)) q:=λq=>iD ∅ rfl
 have m8:∀q,bw (.int (f.fdiv 6)) (.int 8) q= .ok (.int ((f.fdiv 6).fmod 8)) q:=λq=>c9 ∅ rfl
 by_cases he:(f.fdiv 6).fmod 8=e
 ·haveI k:decide ((f.fdiv 6).fmod 8=e)=true:=decide_eq_true he
  haveI d48:∀q,dq (.int f) (.int 48) q= .ok (.int (f.fdiv 48)) q:=λq=>iD ∅ rfl
  haveI ma:∀q,bw (.int (f.fdiv 48)) (.int a) q= .ok (.int ((f.fdiv 48).fmod a)) q:=λq=>c9 (by exact λx9=>cI 0x9096090a1019812 ha.1 x9) rfl
  haveI mb:∀q,bw (.int s) (.int b) q= .ok (.int (s.fmod b)) q:=λq=>c9 (by exact λx9=>cI 0x9096090a1019812 hb.1 x9) rfl
  have r1:=bB (f.fdiv 48) a (by exact cI 0x99019811 ha.1)
  have r2:=bB s b (by exact cI 0x99019811 hb.1)
  refine bH (upd l "_law_pages" (.int (1+(f.fdiv 48).fmod a))) λl1 e1=> ?_
  refine bH (upd l1 "_law_length" (.int (1+s.fmod b))) λl2 e2=> ?_
  have b3:=ah e1 ∅ h.s
  refine kG ⟨_,_,l2,bq (a:=true) (q':=⟨l,H⟩) ?_ (it_t rfl (ak (q':=⟨l1,H⟩) ?_ ?_)),⟨⟨by exact cI 0x19c198009811 r1.1,by exact qw 0x28a119c80191000028a0812 ha.2 r1.2⟩,⟨by exact cI 0x19c198009811 r2.1,by exact qw 0x3ca119c8019100003ca0812 hb.2 r2.2⟩,ah e2 ∅ (ah e1 ∅ h.a),ah e2 ∅ (ah e1 ∅ h.f),ah e2 ∅ b3,ah e2 ∅ (az e1),az e2⟩⟩
  ·exists h.f,d6,m8,k
  ·exists h.f,d48,ma,e1
  ·exists b3,mb,e2
 ·haveI k:decide ((f.fdiv 6).fmod 8=e)=false:=decide_eq_false he
  refine kG ⟨p,len,l,bq (a:=false) (q':=⟨l,H⟩) ?_ (it_f rfl rfl),h⟩
  exists h.f,d6,m8,k
theorem CA:∃(p len:Int) (xs:List Int) (za:Nat) (H':Hp),A7 (jz [.scr] []= .ok (.tup [.int p,.int len,.ref za]) H') (H'[za]? = some (.list (xs.map V.int))) (1<=p/\p<=40) (1<=len/\len<=60) (je len xs) (xs≠[]) (xs.length<=8):=by
 refine nK λG kG=> ?_
 refine bH (aX ["_law_script"] [.scr]) λl0 e0=> ?_
 have a0:l0 "_law_script" = some .scr:=e0▸rfl
 obtain ⟨f,hf⟩:=xP [] 0 ∅ ∅
 obtain ⟨s,hs⟩:=xP [] 1 ∅ ∅
 obtain ⟨c2,h2⟩:=xP [] 2 ∅ ∅
 obtain ⟨c3,h3⟩:=xP [] 3 ∅ ∅
 refine bH (upd l0 "_law_first" (.int f)) λl1 e1=> ?_
 refine bH (upd l1 "_law_second" (.int s)) λl2 e2=> ?_
 refine bH (upd l2 "_law_pages" (.int (1+f.fmod 6))) λl3 e3=> ?_
 refine bH (upd l3 "_law_length" (.int (1+s.fmod 12))) λl4 e4=> ?_
 haveI m6:∀q,bw (.int f) (.int 6) q= .ok (.int (f.fmod 6)) q:=λq=>c9 ∅ rfl
 haveI m12:∀q,bw (.int s) (.int 12) q= .ok (.int (s.fmod 12)) q:=λq=>c9 ∅ rfl
 have r1:=bB f 6 ∅
 have r2:=bB s 12 ∅
 have a1:=ah e1 ∅ a0
 have a2:=ah e2 ∅ (az e1)
 have a3:=ah e3 ∅ (az e2)
 haveI t1:lL ⟨l0,[]⟩= .ok .next ⟨l1,[]⟩:=by exists a0,hf,e1
 haveI t2:lM ⟨l1,[]⟩= .ok .next ⟨l2,[]⟩:=by exists a1,hs,e2
 haveI t3:lN ⟨l2,[]⟩= .ok .next ⟨l3,[]⟩:=by exists a2,m6,e3
 haveI t4:lO ⟨l3,[]⟩= .ok .next ⟨l4,[]⟩:=by exists a3,m12,e4
 haveI B4:PB f s (1+f.fmod 6) (1+s.fmod 12) l4:=⟨⟨by exact cI 0x19c198009811 r1.1,by exact cI 0x28a019c8690911 r1.2⟩,⟨by exact cI 0x19c198009811 r2.1,by exact cI 0x3ca019c8c90911 r2.2⟩,ah e4 ∅ (ah e3 ∅ (ah e2 ∅ a1)),ah e4 ∅ (ah e3 ∅ a2),ah e4 ∅ a3,ah e4 ∅ (az e3),az e4⟩
 obtain ⟨p5,n5,l5,t5,B5⟩:=DZ (H:=[]) B4 1 40 4 ⟨by decide,by decide⟩ ⟨by decide,by decide⟩
 obtain ⟨p6,n6,l6,t6,B6⟩:=DZ (H:=[]) B5 2 2 60 ⟨by decide,by decide⟩ ⟨by decide,by decide⟩
 obtain ⟨p,len,l,t7,B⟩:=DZ (H:=[]) B6 3 40 60 ⟨by decide,by decide⟩ ⟨by decide,by decide⟩
 haveI m8:∀q,bw (.int c3) (.int 8) q= .ok (.int (c3.fmod 8)) q:=λq=>c9 ∅ rfl
 have r3:=bB c3 8 ∅
 obtain ⟨v,H',w1,xs,rfl,w2,w3,w4,w5,w6⟩:=AD [] c2 len (1+c3.fmod 8) B.hl.1 (by exact cI 0x19c198009811 r3.1) (by exact cI 0x89019c8890911 r3.2)
 refine kG ⟨p,len,xs,_,H',a9 (m:=nU) (q:=⟨l,H'⟩) rfl ?_,w3,B.hp,B.hl,w4,w5,w6⟩
 rw [e0]
 refine ak t1 (ak t2 (ak t3 (ak t4 (ak t5 (ak t6 (ak t7 ?_))))))
 exists B.p,B.n,B.a,h2,h3,m8,w1
theorem wX (H T:Hp) (j:Nat):(H++T)[H.length+j]? = T[j]? := by rw [aaq (aaK _ _),aaF]
noncomputable def hH (n pl:Nat) (p len:Int):Hp:=[.flds (pO pl (n+1) (n+3)),.dict [],.list [.int 0],.list ((List.replicate (p*len).toNat (0:Int)).map V.int)]
theorem EG {H:Hp} {l:bk} {pl m:Nat} {p len:Int} (hpl:H[pl]? = some (.flds (hG p len m))) (hp:1<=p/\p<=40) (hl:1<=len/\len<=60) :
  mG "Room" (gm) [.inst "Plan" pl] ⟨l,H⟩= .ok (.inst "Room" H.length) ⟨l,H++hH H.length pl p len⟩:=by
 refine bH (aX ["self", "plan"] [.inst "Room" H.length,.inst "Plan" pl]) λl0 e0=> ?_
 have a1:l0 "self" = some (.inst "Room" H.length):=e0▸rfl
 have a2:l0 "plan" = some (.inst "Plan" pl):=e0▸rfl
 refine bH (O.list ((List.replicate (p*len).toNat (0:Int)).map V.int)) λL eL=> ?_
 haveI eT:hH H.length pl p len=[.flds (pO pl (H.length+1) (H.length+3)),.dict [],.list [.int 0],L]:=by rw [<- eL];rfl
 rw [eT]
 refine bH ([("plan",V.inst "Plan" pl),("racks",V.ref (H.length+1))]) λf2 ef2=> ?_
 haveI b1:0<=p*len:=Int.mul_nonneg (by exact cI 0x98019811 hp.1) (by exact cI 0x98019811 hl.1)
 haveI b2:p*len<=40*60:=Int.mul_le_mul hp.2 hl.2 (by exact cI 0x98019811 hl.1) ∅
 have hpl':∀T:Hp,(H++T)[pl]? = some (.flds (hG p len m)):=λT=>aE ⟨_,rfl⟩ hpl
 haveI m1:∀q,gB (.int p) (.int len) q= .ok (.int (p*len)) q:=λq=>Bq p len q (I1 (by exact cI 0x98019811 hp.1) (by exact cI 0xf4240a09000028a0811 hp.2))
 haveI m2:gB (.ref (H.length+2)) (.int (p*len)) ⟨l0,H++[.flds f2,.dict [],.list [.int 0]]⟩= .ok (.ref (H.length+3)) ⟨l0,H++[.flds f2,.dict [],.list [.int 0],L]⟩:=by
  rw [xh (a:=(0:Int)) (f:=V.int) (by rw [aaq (aaK _ _),aaF];rfl) ⟨b1,by exact cI 0xf4240a0800003ca28d0811 b2⟩,eL,aac,aad];rfl
 haveI n0:u9 ⟨l0,H++[.flds [("plan",V.inst "Plan" pl)]]⟩= .ok (.ref (H.length+1)) ⟨l0,H++[.flds [("plan",V.inst "Plan" pl)],.dict []]⟩:=by
  unfold u9;dsimp only;rw [aac,aad];rfl
 haveI n1:fN [.int 0] ⟨l0,H++[.flds f2,.dict []]⟩= .ok (.ref (H.length+2)) ⟨l0,H++[.flds f2,.dict [],.list [.int 0]]⟩:=by
  rw [kQ,if_pos (abc rfl),aac,aad];rfl
 rw [At,show gm [.inst "Room" H.length,.inst "Plan" pl] (H++[.flds []])= .ok .none (H++[.flds (pO pl (H.length+1) (H.length+3)),.dict [],.list [.int 0],L]) from ?_]
 refine nk (m:=rz) (q:=⟨l0,H++[.flds (pO pl (H.length+1) (H.length+3)),.dict [],.list [.int 0],L]⟩) rfl ?_
 rw [e0]
 refine ak (q':=⟨l0,H++[.flds [("plan",.inst "Plan" pl)]]⟩) ?_ (ak (q':=⟨l0,H++[.flds f2,.dict []]⟩) ?_ ?_)
 ·exists a1,a2,ni (fs:=[]) ∅
 ·rw [<- ef2];exists n0,a1,ni (fs:=[("plan",.inst "Plan" pl)]) (abc rfl)
 ·haveI st:=ni (l:=l0) (H:=H) (c := "Room") (f := "cells") (v:= .ref (H.length+3)) (fs:=f2) (os:=[.dict [],.list [.int 0],L]) (by rw [<- ef2];exact abc rfl)
  rw [show u7 "cells" (.ref (H.length+3)) f2=pO pl (H.length+1) (H.length+3) by rw [<- ef2];rfl] at st
  exists n1,a2,fe (hpl' _) (D9 _ _ _),fe (hpl' _) (wt _ _ _),m1,m2,a1,st
noncomputable def Gw (n pl m:Nat) (p len:Int) (xs:List Int):Rm:=⟨pl,n+1,n+3,m,p,len,xs,[],List.replicate (p*len).toNat 0⟩
theorem HA {n pl m:Nat} {p len:Int} {xs:List Int} (hp:1<=p/\p<=40) (hl:1<=len/\len<=60) (hs:je len xs) (hne:xs≠[]) (hm:m≠n+3):(Gw n pl m p len xs).Ok:=by
 haveI b1:0<=p*len:=Int.mul_nonneg (by exact cI 0x98019811 hp.1) (by exact cI 0x98019811 hl.1)
 refine ⟨hp,hl,hs,hne,.nil,.nil,λs h=>(nomatch h),λs h=>(nomatch h),λs h=>(nomatch h),?_,λh=>(nomatch h),λh=>(nomatch h),hm⟩
 show (((List.replicate (p*len).toNat (0:Int)).length:Nat):Int)=p*len
 rw [List.length_replicate];exact id (aa4 (dE 0xf800fa11 (aai b1)) ((aaH _)))
theorem Cg {H:Hp} {l:bk} {j:Nat} {p len:Int} {xs:List Int} (hp:1<=p/\p<=40) (hl:1<=len/\len<=60) (hs:je len xs) (hne:xs≠[]) (h8:xs.length<=8) (hj:H[j]? = some (.list (xs.map V.int))) :
  mG "Plan" (jg) [.int p,.int len,.ref j] ⟨l,H⟩= .ok (.inst "Plan" H.length) ⟨l,H++[.flds (hG p len (H.length+1)),.list (xs.map V.int)]⟩:=by
 haveI:=HN (H++[.flds []]) H.length j p len xs hp hl hs hne h8 (ba _ _) (aE ⟨_,rfl⟩ hj)
 rw [At,this]
 simp
theorem DH {H T:Hp} {n j:Nat} (e:H.length=n) (h:n+T.length=j):(H++T).length=j:=by rw [aac,e,h]
theorem i9 (p len:Int) (F:Vw):ck p len F=(cg p).flatMap (c8 len F):=by
 unfold ck dJ
 induction cg p with
 | nil=>rfl
 | cons g l ih =>
  rw [List.filter_cons,aaS,<- ih]
  cases h:F g with
  | some v=>rw [if_pos (by rfl)];rfl
  | none =>
   rw [if_neg ∅]
   haveI:c8 len F g=[]:=by unfold c8;rw [h]
   rw [this];rfl
theorem kr {f f':Int->List (Int×Int)}:∀ {l:List Int},(∀x∈l,f x=f' x)->l.flatMap f=l.flatMap f'
 | [],_=>rfl
 | x::l,h=>by rw [aaS,aaS,h x (.head _),kr λy hy=>h y (.tail _ hy)]
theorem tD {f f':Int->List (Int×Int)} {g:Int} (h0:f' g=[]) (h1:∀x,x≠g->f' x=f x):∀ {l:List Int},l.Nodup->g∈l->(l.flatMap f).Perm (f g++l.flatMap f')
 | [],_,h=>by cases h
 | x::l,hd,h=>by
  obtain ⟨d1,d2⟩:=aaP.mp hd
  rw [aaS,aaS]
  by_cases e:x=g
  ·subst e
   haveI:l.flatMap f'=l.flatMap f:=kr λy hy=>h1 y λe=>d1 (e▸hy)
   rw [h0,this];exact .refl _
  ·haveI hg:g∈l:=(aah.mp h).resolve_left λe'=>e e'.symm
   rw [h1 x e]
   haveI:=(tD h0 h1 d2 hg).append_left (f x)
   refine this.trans ?_
   rw [<- aad,<- aad]
   exact List.perm_append_comm.append_right _
theorem qZ {p len:Int} {F:Vw} {g:Int} (hg:0<=g/\g<p):(ck p len F).Perm (c8 len F g++ck p len (cL F g none)):=by
 rw [i9,i9]
 refine tD ?_ (λx hx=> ?_) (mD (fu p)) (bU.mpr hg)
 ·unfold c8;rw [bM]
 ·unfold c8;rw [dm _ _ hx]
theorem uQ (len:Int) (F:Vw) (g z:Int) (bs:List Bool):c8 len (cL F g (some (z,bs))) g=(bX 0 bs).map λk=>(g*len+k*z,z):=by unfold c8;rw [bM]
theorem BH {p len:Int} {F:Vw} {g:Int} (hg:0<=g/\g<p) (v:Option (Int×List Bool)):(ck p len (cL F g v)).Perm (c8 len (cL F g v) g++ck p len (cL F g none)):=by
 haveI:=qZ (len:=len) (F:=cL F g v) hg
 rw [j4] at this;exact this
theorem fm:∀(bs:List Bool) (a:Int),bs.count true=0->bX a bs=[]
 | [],_,_=>rfl
 | false::bs,a,h=>fm bs (a+1) (by simpa using h)
 | true::bs,a,h=>by simp at h
theorem wB:∀(bs:List Bool) (a:Int) (k:Nat),bs[k]? = some false->(bX a (bs.set k true)).Perm ((a+k)::bX a bs)
 | [],_,_,h=>by simp at h
 | b::bs,a,0,h=>by
  cases Option.some.inj h
  rw [List.set_cons_zero,Int.natCast_zero,Int.add_zero];exact .refl _
 | b::bs,a,k+1,h=>by
  have:=wB bs (a+1) k h
  rw [show a+1+(k:Int)=a+((k+1:Nat):Int) by exact aa4 (dE 0x190cf0c0f190cc80) (dE 0xf190cc190cf0c80)] at this
  rw [List.set_cons_succ]
  cases b with
  | true=>exact (this.cons a).trans (.swap _ _ _)
  | false=>exact this
theorem xE {bs:List Bool} {k:Nat} {b:Bool} (h:bs[k]? = some b) (c:Bool):(bs.set k c).set k b=bs:=by
 obtain ⟨hk,e⟩:=aab.mp h
 rw [List.set_set,<- e,List.set_getElem_self]
theorem wY {bs:List Bool} {k:Nat} {b:Bool} (h:bs[k]? = some b) (c:Bool):(bs.set k c)[k]? = some c:=aaB (aab.mp h).1
theorem uR {p len:Int} {F:Vw} {g z:Int} {bs:List Bool} {k:Nat} (hg:0<=g/\g<p) (hF:c8 len F g=(bX 0 bs).map λk=>(g*len+k*z,z)) (hk:bs[k]? = some false) :
  (ck p len (cL F g (some (z,bs.set k true)))).Perm ((g*len+k*z,z)::ck p len F):=by
 refine (BH hg _).trans ?_
 haveI h1:=(wB bs 0 k hk).map λk=>(g*len+k*z,z)
 rw [Int.zero_add] at h1
 rw [uQ]
 refine (h1.append_right _).trans ?_
 rw [aas,aba,<- hF]
 exact ((qZ hg).symm).cons _
theorem wb {bs:List Bool} {k:Nat} (h:bg bs=some k):bs[k]? = some false:=(gu h).2
structure Pk (p:Int) (F:Vw) (z g:Int) (bs:List Bool):Prop where
 hg:0<=g/\g<p
 old:F g=some (z,bs)\/bs.count true=0/\(F g=none\/ ∃v,F g=some v/\v.2.count true=0)
theorem FH {p len:Int} {F:Vw} {z:Int} (hin:∀g v,F g=some v->0<=g/\g<p) {gF:Int×Vw} (h:yY p len F z=some gF) {bs:List Bool} (hb:gF.2 gF.1=some (z,bs)) {k:Nat} (hk:bg bs=some k) :
  Pk p F z gF.1 bs/\cL gF.2 gF.1 (some (z,bs.set k true))=cL F gF.1 (some (z,bs.set k true)):=by
 unfold yY at h
 cases hbst:EW F none (bW p F z) with
 | some g =>
  rw [hbst] at h
  cases h
  exact ⟨⟨hin _ _ hb,.inl hb⟩,rfl⟩
 | none =>
  rw [hbst] at h
  obtain ⟨g,hg,rfl⟩:=Option.map_eq_some_iff.mp h
  dsimp only at hb ⊢
  rw [bM] at hb
  cases hb
  refine ⟨⟨?_,.inr ⟨by rw [List.count_replicate];rfl,?_⟩⟩,j4 _ _ _ _⟩
  all_goals
   unfold zV at hg
   split at hg
   ·rename_i g' r hbr
    cases hg
    have:=C8 (F:=F) (p:=p) (g:=g) (by rw [hbr];exact .head _)
    first | exact this.1 | exact .inl this.2
   ·have:=List.mem_of_head? hg
    obtain ⟨h1,v,hv⟩:=Dm this
    first
     | exact h1
     | exact .inr ⟨v,hv,by
       haveI h2:=(aaD.mp this).2
       unfold Dk at h2;rw [hv] at h2;simpa using h2⟩
theorem Pk.thg {p len:Int} {F:Vw} {z g:Int} {bs:List Bool} (h:Pk p F z g bs):c8 len F g=(bX 0 bs).map λk=>(g*len+k*z,z):=by
 unfold c8
 rcases h.old with h1 | ⟨h1,h2 | ⟨v,h2,h3⟩⟩
 ·rw [h1]
 ·rw [h2,fm bs 0 h1];rfl
 ·rw [h2];dsimp only;rw [fm v.2 0 h3,fm bs 0 h1];rfl
theorem Ew {p len:Int} {F:Vw} {g z:Int} {bs:List Bool} {k:Nat} (hg:0<=g/\g<p) (hF:F g=some (z,bs)) (hk:bs[k]? = some true) :
  (ck p len F).Perm ((g*len+k*z,z)::ck p len (Fg p F g z (bs.set k false))):=by
 haveI h1:=uR (p:=p) (len:=len) (F:=cL F g (some (z,bs.set k false))) (z:=z) (bs:=bs.set k false) (k:=k) hg (uQ _ _ _ _ _) (wY hk false)
 rw [xE hk,j4] at h1
 haveI e:cL F g (some (z,bs))=F:=by
  funext x
  by_cases hx:x=g
  ·rw [hx,bM,hF]
  ·rw [dm _ _ hx]
 rw [e] at h1
 refine h1.trans (.cons _ ?_)
 unfold Fg
 split
 ·rename_i h
  refine (BH hg _).trans ?_
  rw [uQ,fm _ _ h.1,j4];exact .refl _
 ·exact .refl _
theorem EA (p len:Int) (F:Vw):ck p len (dY F (lX p F))=ck p len F:=by
 rw [i9,i9]
 refine kr λg hg=> ?_
 unfold c8 dY
 split
 ·rename_i v hv
  split at hv
  ·cases hv
  ·rw [hv]
 ·rename_i hv
  split at hv
  ·rename_i hm
   haveI h2:=(aaD.mp hm).2
   unfold Dk at h2
   cases hF:F g with
   | none=>rfl
   | some v =>
    rw [hF] at h2
    dsimp only
    rw [fm v.2 0 (by simpa using h2)];rfl
  ·rw [hv]
def GU (len z:Int) (F:Vw):Prop:= ∀g v,F g=some v->v.1=z->(v.2.length:Int)=len.fdiv z
theorem HD {H:Hp} {l:bk} {o:Nat} {vs:List V} (v:V) (h:H[o]? = some (.list vs)) {i:Nat} (hi:i<vs.length) (hl:vs.length<=1000000):bL (.ref o) (.int i) v ⟨l,H⟩= .ok () ⟨l,H.set o (.list (vs.set i v))⟩:=by
 haveI h1:(i:Int)<1000000:=by exact bP 0xf4240a0f90f4240a10110112 hi hl
 unfold bL;dsimp only;rw [h];exact if_pos ⟨Int.natCast_nonneg _,h1,Int.ofNat_lt.mpr hi⟩
noncomputable def I5 (len z:Int) (it:Int×Int):Int×Int:=(it.1*len+it.2*z,z)
theorem BG {p len z:Int} {F:Vw}:∀ {l:List Int},l.Nodup->(∀g∈l,(0<=g/\g<p)/\ ∃bs,F g=some (z,bs))->(ck p len F).Perm ((l.flatMap (tK F)).map (I5 len z)++ck p len (dY F l))
 | [],_,_=>by rw [un];exact .refl _
 | g::l,hd,h=>by
  obtain ⟨d1,d2⟩:=aaP.mp hd
  obtain ⟨hg,bs,hb⟩:=h g (.head _)
  haveI ih:=BG (len:=len) d2 λx hx=>h x (.tail _ hx)
  haveI sp:=qZ (len:=len) (F:=dY F l) hg
  rw [Cr] at sp
  haveI e:c8 len (dY F l) g=(tK F g).map (I5 len z):=by
   unfold c8 tK dY
   rw [if_neg d1,hb];dsimp only
   rw [aaQ];rfl
  rw [e] at sp
  refine (ih.trans (sp.append_left _)).trans ?_
  rw [aaS,aa7,<- aad]
  exact (List.perm_append_comm).append_right _
structure Mv (p z:Int) (stay ns:List Int) (Fr:Vw):Prop where
 on:∀x∈stay,∃bs,Fr x=some (z,bs)
 rg:∀x∈stay,0<=x/\x<p
 ns:∀x∈stay,x∉ns
theorem FB {p len z:Int} {stay ns:List Int} {Fr:Vw} (h:Mv p z stay ns Fr) {it:Int×Int} (hm:(stay.find? (yW Fr)).isSome=true) :
  ∃to,A3 ((lY len z stay Fr it).1=(it.1*len+it.2*z,to)) (Mv p z stay ns (lY len z stay Fr it).2) ((ck p len (dY (lY len z stay Fr it).2 ns)).Perm ((to,z)::ck p len (dY Fr ns))):=by
 obtain ⟨x,hx⟩:=aaR.mp hm
 have hxs:=aaT hx
 obtain ⟨v,j,hv,hj⟩:=pK (List.find?_some hx)
 obtain ⟨bs,hb⟩:=h.on x hxs
 obtain rfl:v=(z,bs):=Option.some.inj (hv.symm.trans hb)
 rw [sU it hx hv hj]
 refine ⟨_,rfl,⟨λy hy=> ?_,h.rg,h.ns⟩,?_⟩
 ·by_cases e:y=x
  ·exact ⟨_,by rw [e];exact bM _ _ _⟩
  ·exact (h.on y hy).imp λ_ hy=>(dm _ _ e).trans hy
 ·haveI e:dY (cL Fr x (some (z,bs.set j true))) ns=cL (dY Fr ns) x (some (z,bs.set j true)):=by
   funext y
   unfold dY cL
   by_cases e:y=x
   ·rw [if_pos e,e,if_neg (h.ns x hxs),if_pos rfl]
   ·rw [if_neg e,if_neg e]
  dsimp only
  rw [e]
  refine uR (h.rg x hxs) ?_ (wb hj)
  unfold c8 dY;rw [if_neg (h.ns x hxs),hb]
theorem Hk {H:Hp} {l:bk} {i:Nat} {vs:List V} (h:H[i]? = some (.list vs)):po "list" (.ref i) ⟨l,H⟩= .ok (.bool true) ⟨l,H⟩:=by rw [Gq,show xM H (.ref i)=some "list" by unfold xM;dsimp only;rw [h]];rfl
theorem ud {H:Hp} {n:Nat} {cs:List V} (hn:H[n]? = some (.list cs)):∀(es:List (Int×Int)) (l:bk),∃l',dD (λH=>ax (.ref n) H=some cs) (aY "_law_pair") (nJ) (es.map aO) ⟨l,H⟩= .ok .next ⟨l',H⟩
 | [],l=>⟨l,rfl⟩
 | e::es,l=>by
  refine bH (upd l "_law_pair" (.tup [.int e.1,.int e.2])) λl1 el=> ?_
  obtain ⟨l2,t⟩:=ud hn es l1
  haveI d0:∀q,aW (.tup [.int e.1,.int e.2]) (.int 0) q= .ok (.int e.1) q:=λq=>rfl
  haveI d1:∀q,aW (.tup [.int e.1,.int e.2]) (.int 1) q= .ok (.int e.2) q:=λq=>rfl
  haveI it:∀q,po "tuple" (.tup [.int e.1,.int e.2]) q= .ok (.bool true) q:=λq=>rfl
  haveI ln:∀q,dw [.tup [.int e.1,.int e.2]] q= .ok (.int 2) q:=λq=>rfl
  haveI e2:∀q,tB (.int 2) (.int 2) q= .ok true q:=λq=>yB rfl
  refine ⟨l2,(cN (q':=⟨l1,H⟩) (bq (g_set el) (ak (q':=⟨l1,H⟩) ?_ ?_)) (sS hn)).trans t⟩
  ·exists az el,it,ln,e2
  ·exists az el,d0,d1,d5
theorem FY {H:Hp} {n:Nat} {es:List (Int×Int)} (hn:H[n]? = some (.list (es.map aO))):mz [.ref n] H= .ok (.bool true) H:=by
 refine bH (aX ["_law_found"] [.ref n]) λl0 e0=> ?_
 have a0:l0 "_law_found" = some (.ref n):=e0▸rfl
 obtain ⟨l',t⟩:=ud hn es l0
 refine a9 (m:=rG) (q:=⟨l',H⟩) rfl ?_
 rw [e0]
 refine ak (q':=⟨l0,H⟩) ?_ (ak (q':=⟨l',H⟩) (bq (bq (g_get a0) (Ag hn)) t) rfl)
 exists a0,Hk hn
section
variable {col:Nat->Nat} {H:Hp} {p len:Int} {xs:List Int} {ri o za:Nat} {r:Rm} {os:List (Int×Int)} {l:bk}
theorem slot {len z:Int} {j n:Nat} (hl:1<=len) (hz:1<=z) (hn:(n:Int)=len.fdiv z) (hj:j<n):0<=(j:Int)*z/\(j:Int)*z+z<=len:=by
 obtain ⟨u1,u2,u3,u4⟩:=dH (a:=len) (b:=z) (by exact cI 0x98019811 hl) hz
 haveI b3:((j:Int)+1)*z<=len.fdiv z*z:=Int.mul_le_mul_of_nonneg_right (by exact kK 0x191fc8011100fa12 hn hj) (by exact cI 0x98019811 hz)
 rw [Int.add_mul,Int.one_mul] at b3
 exact ⟨Int.mul_nonneg (by exact bO 0xf0980) (by exact cI 0x98019811 hz),aa9 b3 u3⟩
theorem ue {a b len:Int} (h:a<b) (hl:1<=len):a*len+len<=b*len:=by
 haveI:(a+1)*len<=b*len:=Int.mul_le_mul_of_nonneg_right h (by exact cI 0x98019811 hl)
 rw [Int.add_mul,Int.one_mul] at this;exact this
end
theorem wA:∀(bs:List Bool) (a:Int),(∀k∈bX a bs,a<=k)/\(bX a bs).Pairwise (· < ·)
 | [],a=>⟨λk hk=>(nomatch hk),.nil⟩
 | b::bs,a=>by
  obtain ⟨h1,h2⟩:=wA bs (a+1)
  cases b with
  | true =>
   rw [FT]
   exact ⟨λk hk=>(aah.mp hk).elim (λe=>Int.le_of_eq e.symm) λhk=>aa9 (Int.le_add_of_nonneg_right ∅) (h1 k hk),aaJ.mpr ⟨λk hk=>h1 k hk,h2⟩⟩
  | false =>
   rw [FS]
   exact ⟨λk hk=>aa9 (Int.le_add_of_nonneg_right ∅) (h1 k hk),h2⟩
theorem Ez (p len:Int):ck p len (look [])=[]:=by
 rw [i9]
 haveI:c8 len (look [])=λ_=>[]:=rfl
 rw [this]
 induction cg p with
 | nil=>rfl
 | cons _ _ ih=>rw [aaS,ih];rfl
section
variable {H:Hp} {ri:Nat} {r:Rm} (hR:aF H ri r)
include hR
theorem F9 {v:V} {j x:Int} {c:String} (h:fh [.inst "Room" ri,v,.int j] H= .exc c H):de [.inst "Room" ri,v,.int j,.int x] H= .exc c H:=by
 refine bH (aX ["self", "place", "step", "number"] [.inst "Room" ri,v,.int j,.int x]) λl0 e0=> ?_
 have a1:l0 "self" = some (.inst "Room" ri):=e0▸rfl
 haveI a2:l0 "place" = some v:=e0▸rfl
 haveI a3:l0 "step" = some (.int j):=e0▸rfl
 haveI a4:l0 "number" = some (.int x):=e0▸rfl
 refine iC (m:=kH) (q:=⟨l0,H⟩) rfl ?_
 rw [e0]
 exact bq (g_get a4) (bq (bq (g_get a1) (mM hR _)) (bx (bq (g_get a1) (bq (aS hR ∅ _) (bq (bq (g_get a2) (bq (bq (g_get a3) (bq rfl rfl)) rfl)) (ky h))))))
variable (hO:r.Ok)
include hO
theorem BU {g z:Int} {s:bD} (hf:dz r.ss g=some s) (hz:s.sz=z) {k:Nat} (hk:s.bs[k]? = some true) {j:Int} (hj:¬(0<=j/\j<z)):fh [.inst "Room" ri,.int (g*r.len+k*z),.int j] H= .exc "OutOfThing" H:=by
 haveI hv:=xQ hR hO hf hz hk
 haveI rs:=λl=>(pN hR (aJ hf).1 l).1
 rw [hz] at rs
 refine bH (g*r.len+k*z) λpl epl=> ?_
 rw [epl] at hv ⊢
 refine bH (aX ["self", "place", "step"] [.inst "Room" ri,.int pl,.int j]) λl0 e0=> ?_
 haveI a1:l0 "self" = some (.inst "Room" ri):=e0▸rfl
 haveI a2:l0 "place" = some (.int pl):=e0▸rfl
 haveI a3:l0 "step" = some (.int j):=e0▸rfl
 refine bH (upd l0 "shelf" (.inst "Shelf" s.sh)) λl1 el1=> ?_
 haveI b1:l1 "shelf" = some (.inst "Shelf" s.sh):=az el1
 have b3:l1 "step" = some (.int j):=ah el1 ∅ a3
 refine iC (m:=mE) (q:=⟨l1,H⟩) rfl ?_
 rw [e0]
 haveI it:∀q,aW (.tup [.inst "Shelf" s.sh,.int k]) (.int 0) q= .ok (.inst "Shelf" s.sh) q:=λq=>rfl
 refine ak (q':=⟨l1,H⟩) (by exists a1,a2,aS hR (f := "found") ⟨by decide,by decide,by decide⟩,hv,it,el1) (jn ?_)
 by_cases h0:0<=j
 ·haveI d0:decide ((0:Int)<=j)=true:=decide_eq_true h0
  haveI d1:decide (j<z)=false:=decide_eq_false λh=>hj ⟨h0,h⟩
  exists b3,d0,b1,rs,d1
 ·haveI d0:decide ((0:Int)<=j)=false:=decide_eq_false h0
  exists b3,d0
end
section
variable {p len z:Int} {F:Vw}
theorem HU:bW p F z=(cg p).filter (jE F z):=by
 unfold bW dJ
 rw [List.filter_filter]
 refine List.filter_congr λg _=> ?_
 cases h:jE F z g with
 | false=>rfl
 | true =>
  unfold jE at h
  cases hF:F g with
  | none=>rw [hF] at h;cases h
  | some v=>rfl
end
theorem yp {f:Int->Bool} {h x:Int}:∀ {l:List Int},l.Pairwise (· < ·)->l.find? f=some h->x∈l->f x=true->h<=x
 | [],_,e,_,_=>by cases e
 | a::l,hw,e,hx,hf=>by
  obtain ⟨h1,h2⟩:=aaJ.mp hw
  cases ha:f a with
  | true =>
   rw [aaG ha] at e
   cases e
   rcases aah.mp hx with e | hx
   ·exact Int.le_of_eq e.symm
   ·exact Int.le_of_lt (h1 x hx)
  | false =>
   rw [aay (by rw [ha];exact aa5)] at e
   rcases aah.mp hx with e' | hx
   ·rw [e',ha] at hf;cases hf
   ·exact yp h2 e hx hf
theorem wc:∀ {bs:List Bool} {j i:Nat},bg bs=some j->bs[i]? = some false->j<=i
 | [],_,_,h,_=>by cases h
 | false::r,j,i,h,_=>by cases h;exact Nat.zero_le _
 | true::r,j,i,h,hi=>by
  obtain ⟨j',h1,rfl⟩:=Option.map_eq_some_iff.mp (show (bg r).map (· + 1)=some j from h)
  cases i with
  | zero=>cases hi
  | succ i=>exact Nat.succ_le_succ (wc h1 hi)
structure IU (len z:Int) (stay:List Int) (F:Vw) (d:Int):Prop where
 ex:∃h bs j,h∈stay/\F h=some (z,bs)/\bs[j]? = some false/\d=h*len+(j:Nat)*z
structure Ik (len z:Int) (stay:List Int) (F:Vw):Prop where
 on:∀x∈stay,∃bs,F x=some (z,bs)
 sz:GU len z F
 w:stay.Pairwise (· < ·)
 z:1<=z
 l:1<=len
section
variable {p len z:Int} {stay ns:List Int} {F:Vw}
theorem Ht (h:Ik len z stay F) {it:Int×Int} (hm:(stay.find? (yW F)).isSome=true):∃d,A6 ((lY len z stay F it).1=(it.1*len+it.2*z,d)) (Ik len z stay (lY len z stay F it).2) (IU len z stay F d) (∀d',IU len z stay (lY len z stay F it).2 d'->IU len z stay F d'/\d+z<=d') (∀x,x∉stay->(lY len z stay F it).2 x=F x) ((stay.map (dA (lY len z stay F it).2)).sum=(stay.map (dA F)).sum+1):=by
 obtain ⟨x,hx⟩:=aaR.mp hm
 have hxs:=aaT hx
 obtain ⟨v,j,hv,hj⟩:=pK (List.find?_some hx)
 obtain ⟨bs,hb⟩:=h.on x hxs
 obtain rfl:v=(z,bs):=Option.some.inj (hv.symm.trans hb)
 rw [sU it hx hv hj]
 have hj:bg bs=some j:=hj
 have hjl:=gu hj
 dsimp only
 refine ⟨_,rfl,⟨λy hy=> ?_,λg v hg hz=> ?_,h.w,h.z,h.l⟩,⟨x,bs,j,hxs,hb,hjl.2,rfl⟩,λd' hd'=> ?_,λy hy=>dm _ _ λe=>hy (e▸hxs),?_⟩
 ·by_cases e:y=x
  ·exact ⟨_,by rw [e];exact bM _ _ _⟩
  ·exact (h.on y hy).imp λ_ hy=>(dm _ _ e).trans hy
 ·by_cases e:g=x
  ·rw [e,bM] at hg
   cases hg
   rw [List.length_set];exact h.sz x _ hb rfl
  ·rw [dm _ _ e] at hg;exact h.sz g v hg hz
 ·obtain ⟨y,bs',i,hy,hF,hi,rfl⟩:=hd'
  haveI hn:=h.sz x _ hb rfl
  haveI hz:=h.z
  haveI sl:=slot h.l h.z hn hjl.1
  by_cases e:y=x
  ·subst e
   rw [bM] at hF
   cases hF
   have hij:i≠j:=λe=>by rw [e,aaB hjl.1] at hi;cases hi
   rw [aaC (Ne.symm hij)] at hi
   haveI h1:=wc hj hi
   haveI h2:=ue (a:=j) (b:=i) (by exact (aar hij).elim (λy2=>bP 0x1f0f9011110022 h1 y2) (λy2=>bP 0x1f0f910111 y2)) h.z
   exact ⟨⟨y,bs,i,hy,hb,hi,rfl⟩,by exact Hi 0x23c103cc8210c811 h2⟩
  ·rw [dm _ _ e] at hF
   haveI ho:yW F y=true:=by unfold yW;rw [hF];exact oG (List.count_pos_iff.mpr (aaI hi))
   haveI h1:=yp h.w hx hy ho
   haveI h2:=ue (a:=x) (b:=y) (by exact (Int.lt_or_gt_of_ne e).elim (λy2=>qw 0x109019110822 h1 y2) (λy2=>y2)) h.l
   haveI h3:0<=(i:Int)*z:=Int.mul_nonneg (Int.natCast_nonneg _) (by exact cI 0x98019811 hz)
   exact ⟨⟨y,bs',i,hy,hF,hi,rfl⟩,by exact fi [] [_,_,_,_,_,_] 0x54c103cc850981423c81210c813 sl.2 h2 h3⟩
 ·refine (xH (f:=dA (cL F x (some (z,bs.set j true)))) (f':=dA F) (h:=x) ?_ (λy hy=> ?_) (mD h.w) hxs).symm
  ·unfold dA
   rw [bM,hb]
   have h1:=mA hj
   have h2:=Dh bs
   have h3:=Dh (bs.set j true)
   rw [List.length_set] at h3
   dsimp only;exact id (aaf (yU 0x4192c0304c31312c211190c213 h1 h2 h3) (yU 0x192c40304c21312c311190c313 h1 h2 h3))
  ·unfold dA;rw [dm _ _ hy]
structure Jt (len z:Int) (stay:List Int) (F:Vw) (its M:List (Int×Int)) (F':Vw):Prop where
 src:M.map (·.1)=its.map λit=>it.1*len+it.2*z
 dst:∀m∈M,IU len z stay F m.2
 asc:M.Pairwise λa b=>a.2+z<=b.2
 on:Ik len z stay F'
 off:∀x,x∉stay->F' x=F x
 sum:(stay.map (dA F')).sum=(stay.map (dA F)).sum+its.length
theorem DP:∀ {its:List (Int×Int)} {F:Vw},Ik len z stay F->Ci len z stay F its->Jt len z stay F its (fj len z stay F its).1 (fj len z stay F its).2
 | [],F,h,_=>⟨rfl,λm hm=>(nomatch hm),.nil,h,λ_ _=>rfl,rfl⟩
 | it::its,F,h,hm=>by
  obtain ⟨d,e,h1,h2,h3,h4,h5⟩:=Ht (it:=it) h hm.1
  have r:=DP (its:=its) h1 hm.2
  rw [oP,e]
  refine ⟨by rw [aas,aas,r.src],λm hm=> ?_,aaJ.mpr ⟨λm hm=>(h3 _ (r.dst m hm)).2,r.asc⟩,r.on,λx hx=>(r.off x hx).trans (h4 x hx),?_⟩
  ·rcases aah.mp hm with rfl | hm
   ·exact h2
   ·exact (h3 _ (r.dst m hm)).1
  ·rw [r.sum,h5,aau];exact id (aaf (bP 0x191c0c1190cc00) (bP 0x1190cc191c0c00))
theorem Ey:∀ {its:List (Int×Int)} {F:Vw},Mv p z stay ns F->Ci len z stay F its->(ck p len (dY (fj len z stay F its).2 ns)).Perm ((fj len z stay F its).1.map (λm=>(m.2,z))++ck p len (dY F ns))
 | [],F,_,_=> .refl _
 | it::its,F,h,hm=>by
  obtain ⟨d,e,h1,h2⟩:=FB (len:=len) (it:=it) h hm.1
  haveI r:=Ey (its:=its) h1 hm.2
  rw [oP]
  dsimp only
  rw [aas,e,aba]
  exact (r.trans (h2.append_left _)).trans List.perm_middle
end
noncomputable def u0 (M:List (Int×Int)) (a:Int):Int:=match M with
 | []=>a
 | m::ms=>if m.1=a then m.2 else u0 ms a
theorem zP:∀ {M:List (Int×Int)} {a:Int},a∉M.map (·.1)->u0 M a=a
 | [],_,_=>rfl
 | m::ms,a,h=>by
  unfold u0
  rw [if_neg λe:m.1=a=>h (e ▸ .head _)]
  exact zP λh'=>h (.tail _ h')
theorem wO:∀ {M:List (Int×Int)},(M.map (·.1)).Nodup-> ∀ {m:Int×Int},m∈M->u0 M m.1=m.2
 | [],_,_,h=>by cases h
 | x::ms,hd,m,h=>by
  obtain ⟨h1,h2⟩:=aaP.mp hd
  unfold u0
  rcases aah.mp h with rfl | h
  ·rw [if_pos rfl]
  ·rw [if_neg λe:x.1=m.1=>h1 (by show x.1∈_;rw [e];exact aav h)]
   exact wO h2 h
structure Gz (p len z:Int) (F:Vw):Prop where
 inr:∀g v,F g=some v->0<=g/\g<p
 sz:GU len z F
 l:1<=len
 per:1<=len.fdiv z
 z:1<=z
abbrev qD (p len:Int) (F:Vw) (z:Int):List Int:=(bW p F z).filter λg => !decide (g∈br p len F z)
section
variable {p len z:Int} {F:Vw}
theorem HI:(br p len F z).Pairwise (· < ·):=((lb _:(br p len F z).Pairwise (· <= ·)).and (oV (p:=p) (len:=len) (F:=F) (z:=z))).imp λh=>Int.lt_iff_le_and_ne.mpr h
theorem Gz.stq (h:Gz p len z F):Ik len z (br p len F z) F:=⟨λx hx=>uY (pT hx),h.sz,HI,h.z,h.l⟩
theorem Gz.mv (h:Gz p len z F):Jt len z (br p len F z) F (b9 F (br p len F z) (bW p F z)) (gN p len F z) (fj len z (br p len F z) F (b9 F (br p len F z) (bW p F z))).2 :=
 DP h.stq (zX h.sz h.per)
theorem FE {x:Int} (h:x∈br p len F z):x∉qD p len F z:=λhn=>by
 have:=(aaD.mp hn).2
 rw [decide_eq_true h] at this;cases this
theorem Gz.perm (h:Gz p len z F) {os:List (Int×Int)} (pm:os.Perm (ck p len F)) (hw:(ck p len F).Pairwise λa b=>a.1+a.2<=b.1) (hp:∀e∈ck p len F,1<=e.2) :
  A5 ((os.map λe=>(u0 (gN p len F z) e.1,e.2)).Perm (ck p len (B2 p len F z))) (∀m∈gN p len F z,(m.1,z)∈os) ((gN p len F z).Pairwise (λa b=>a.1<b.1)) ((ck p len (B2 p len F z)).Perm ((gN p len F z).map (λm=>(m.2,z))++ck p len (dY F (qD p len F z)))) (∀e∈os,e∈ck p len (dY F (qD p len F z))/\u0 (gN p len F z) e.1=e.1\/ ∃m∈gN p len F z,e=(m.1,z)/\u0 (gN p len F z) e.1=m.2):=by
 haveI hns:(qD p len F z).Nodup:=qe.filter _
 have hnm:∀g∈qD p len F z,(0<=g/\g<p)/\ ∃bs,F g=some (z,bs):=λg hg=>by
  obtain ⟨bs,hb⟩:=uY (aaD.mp hg).1
  exact ⟨h.inr g _ hb,bs,hb⟩
 have out:=BG (len:=len) hns hnm
 rw [<- Ai] at out
 haveI hMv:Mv p z (br p len F z) (qD p len F z) F:=⟨λx hx=>uY (pT hx),λx hx=>by
  obtain ⟨bs,hb⟩:=uY (pT hx)
  exact h.inr x _ hb,λx hx=>FE hx⟩
 have tm:=Ey (its:=b9 F (br p len F z) (bW p F z)) hMv (zX h.sz h.per)
 have es:(b9 F (br p len F z) (bW p F z)).map (I5 len z)=(gN p len F z).map λm=>(m.1,z):=by
  haveI:=congrArg (List.map λa:Int=>(a,z)) h.mv.src
  rw [aaQ,aaQ] at this
  exact this.symm
 rw [es] at out
 haveI lt:(ck p len F).Pairwise λa b=>a.1≠b.1:=hw.imp_of_mem λ{a b} ha hb h=>by haveI:=hp a ha;exact id (λx9=>EY 0x909620b111981210c813 h this x9)
 haveI nd:(((gN p len F z).map λm=>(m.1,z))++ck p len (dY F (qD p len F z))).Pairwise λa b=>a.1≠b.1:=out.pairwise lt λh e=>h e.symm
 obtain ⟨n1,n2,n3⟩:=aap.mp nd
 have nM:((gN p len F z).map (·.1)).Nodup:=by rw [show (gN p len F z).map (·.1)=((gN p len F z).map λm=>(m.1,z)).map (·.1) by rw [aaQ];rfl];exact aaY.mpr n1
 have no:∀e∈ck p len (dY F (qD p len F z)),u0 (gN p len F z) e.1=e.1:=λe he=>zP λhm=>by
  obtain ⟨m,hm,q⟩:=aae.mp hm
  exact n3 (m.1,z) (aav (f:=λm:Int×Int=>(m.1,z)) hm) e he q
 refine ⟨?_,λm hm=>(pm.trans out).mem_iff.mpr (aaE _ (aav (f:=λm:Int×Int=>(m.1,z)) hm)),?_,tm,λe he=> ?_⟩
 ·refine ((pm.trans out).map _).trans (List.Perm.trans (List.Perm.of_eq ?_) tm.symm)
  rw [aa7,aaQ]
  congr 1
  ·exact abf λm hm=>by show (u0 _ m.1,z)=_;rw [wO nM hm]
  ·exact (abf λe he=>by rw [no e he];rfl).trans (List.map_id _)
 ·haveI sub:((gN p len F z).map λm=>(m.1,z)).Sublist (ck p len F):=by
   rw [<- es,Ai,i9]
   haveI:((qD p len F z).flatMap (tK F)).map (I5 len z)=(qD p len F z).flatMap (c8 len F):=by
    rw [List.map_flatMap]
    refine kr λg hg=> ?_
    obtain ⟨_,bs,hb⟩:=hnm g hg
    unfold c8 tK;rw [hb];dsimp only;rw [aaQ];rfl
   rw [this]
   haveI s1:(qD p len F z).Sublist (cg p):=by unfold qD;rw [HU];exact List.filter_sublist.trans List.filter_sublist
   generalize qD p len F z=n0 at s1
   generalize cg p=a0 at s1
   clear this
   induction s1 with
   | slnil=>exact .refl _
   | cons a _ ih=>rw [aaS];exact ih.trans (List.sublist_append_right _ _)
   | cons_cons a _ ih=>rw [aaS,aaS];exact ih.append_left _
  exact (aaY.mp (hw.sublist sub)).imp λ{a b} q=>by haveI:=h.z;dsimp only at q;exact id (EY 0x20911981210c812 q this)
 ·rcases aan.mp ((pm.trans out).mem_iff.mp he) with q | q
  ·obtain ⟨m,hm,rfl⟩:=aae.mp q
   exact .inr ⟨m,hm,rfl,wO nM hm⟩
  ·exact .inl ⟨q,no e q⟩
end
theorem sN {a b:Int} {i:Nat}:∀ {ys cs:List Int},(∀y∈ys,(b+y).toNat≠i)->(BX a b cs ys)[i]? = cs[i]?
 | [],_,_=>rfl
 | y::ys,cs,h=>by
  unfold BX
  rw [sN λy' hy'=>h y' (.tail _ hy'),aaC (h y (.head _))]
theorem Dg {a b:Int} {N:Nat}:∀ {ys cs:List Int},cs.length=N->ys.Nodup->(∀y∈ys,(0<=a+y/\a+y<N)/\0<=b+y/\b+y<N)->(∀y∈ys,∀y'∈ys,a+y≠b+y')-> ∀ {y:Int},y∈ys->(BX a b cs ys)[(b+y).toNat]? = cs[(a+y).toNat]?
 | [],_,_,_,_,_,_,h=>by cases h
 | y0::ys,cs,hN,hd,hb,hne,y,hy=>by
  obtain ⟨d1,d2⟩:=aaP.mp hd
  unfold BX
  have b0:=hb y0 (.head _)
  rcases aah.mp hy with rfl | hy
  ·rw [sN λy' hy' q=>d1 (by rw [<- (tn (hb y' (.tail _ hy')).2.1 b0.2.1 q |> Int.add_left_cancel:y'=y)];exact hy')]
   rw [aaB (by exact fi [_,_,_] [_,_] 0x2110c2fa11f10c9110313 hN b0.2.2 (aai b0.2.1)),List.getD_eq_getElem?_getD,aao (by exact fi [_,_,_] [_,_] 0x2110c2fa11f10c9110313 hN b0.1.2 (aai b0.1.1))];rfl
  ·rw [Dg (by rw [List.length_set];exact hN) d2 (λy' hy'=>hb y' (.tail _ hy')) (λy1 h1 y2 h2=>hne y1 (.tail _ h1) y2 (.tail _ h2)) hy]
   exact aaC λq=>hne y (.tail _ hy) y0 (.head _) (tn b0.2.1 (hb y (.tail _ hy)).1.1 q).symm
theorem wQ {z:Int} {i:Nat}:∀ {M:List (Int×Int)} {cs:List Int},(∀m∈M,∀y,0<=y->y<z->(m.2+y).toNat≠i)->(De z cs M)[i]? = cs[i]?
 | [],_,_=>rfl
 | m::M,cs,h=>by
  unfold De
  rw [wQ λm' hm'=>h m' (.tail _ hm')]
  exact sN λy hy=>h m (.head _) y (bU.mp hy).1 (bU.mp hy).2
theorem Df {z:Int} {N:Nat}:∀ {M:List (Int×Int)} {cs:List Int},cs.length=N->M.Pairwise (λa b=>a.2+z<=b.2)->(∀m∈M,(0<=m.1/\m.1+z<=N)/\0<=m.2/\m.2+z<=N)->(∀m∈M,∀m'∈M,∀y y',(0<=y/\y<z)->(0<=y'/\y'<z)->m.1+y≠m'.2+y') ->
  ∀ {m:Int×Int},m∈M-> ∀ {t:Int},0<=t->t<z->(De z cs M)[(m.2+t).toNat]? = cs[(m.1+t).toNat]?
 | [],_,_,_,_,_,_,h,_,_,_=>by cases h
 | m0::M,cs,hN,hw,hb,hne,m,hm,t,t0,t1=>by
  obtain ⟨w1,w2⟩:=aaJ.mp hw
  unfold De
  have b0:=hb m0 (.head _)
  rcases aah.mp hm with rfl | hm
  ·rw [wQ λm' hm' y y0 y1 q=>absurd (tn (Int.add_nonneg (hb m' (.tail _ hm')).2.1 y0) (Int.add_nonneg b0.2.1 t0) q) (Int.ne_of_gt (Int.lt_of_lt_of_le (Int.add_lt_add_left t1 m.2) (aa9 (w1 m' hm') (Int.le_add_of_nonneg_right y0))))]
   exact Dg hN (mD (fu z)) (λy hy=>by have:=bU.mp hy;exact id (⟨⟨qw 0x10c09810981009812 b0.1.1 this.1,fi [_] [_,_,_] 0xf20c912910f10c812 b0.1.2 this.2⟩,qw 0x10c09810981009812 b0.2.1 this.1,fi [_] [_,_,_] 0xf20c912910f10c812 b0.2.2 this.2⟩)) (λy hy y' hy'=>hne m (.head _) m (.head _) y y' (bU.mp hy) (bU.mp hy')) (bU.mpr ⟨t0,t1⟩)
  ·rw [Df (by rw [wR];exact hN) w2 (λm' hm'=>hb m' (.tail _ hm')) (λa ha b hb=>hne a (.tail _ ha) b (.tail _ hb)) hm t0 t1]
   exact sN λy hy q=>hne m (.tail _ hm) m0 (.head _) t y ⟨t0,t1⟩ (bU.mp hy) (tn (Int.add_nonneg b0.2.1 (bU.mp hy).1) (Int.add_nonneg (hb m (.tail _ hm)).1.1 t0) q).symm
abbrev IV (l:List (Int×Int)):Prop:=l.Pairwise λa b=>a.1+a.2<=b.1
section
variable {p len z:Int} {F:Vw}
theorem Hl {stay:List Int}:∀ {zs:List Int},(∀g∈zs,∃bs,F g=some (z,bs))-> ∀ {it:Int×Int},it∈b9 F stay zs->it.1∉stay/\ ∃bs j,F it.1=some (z,bs)/\bs[j]? = some true/\it.2=((j:Nat):Int):=λ{zs} hz {it} hi=>by
 obtain ⟨g,hg,hi⟩:=List.mem_flatMap.mp hi
 by_cases hs:g∈stay
 ·rw [if_pos hs] at hi;cases hi
 ·rw [if_neg hs] at hi
  obtain ⟨bs,hb⟩:=hz g hg
  unfold tK at hi
  rw [hb] at hi
  obtain ⟨k,hk,rfl⟩:=aae.mp hi
  obtain ⟨j,rfl,hj⟩:=f9 bs 0 k hk
  exact ⟨hs,bs,j,hb,hj,by rw [aa6]⟩
theorem Gz.apart (h:Gz p len z F) {m m':Int×Int} (hm:m∈gN p len F z) (hm':m'∈gN p len F z) {y y':Int} (hy:0<=y/\y<z) (hy':0<=y'/\y'<z):m.1+y≠m'.2+y':=λq=>by
 haveI e:m.1∈(gN p len F z).map (·.1):=aav hm
 rw [h.mv.src] at e
 obtain ⟨it,hit,e⟩:=aae.mp e
 obtain ⟨h1,bs,j,hF,hj,e2⟩:=Hl (λg hg=>uY hg) hit
 obtain ⟨x,bs',j',hx,hF',hj',e3⟩:=(h.mv.dst m' hm').ex
 have s1:=slot h.l h.z (h.sz _ _ hF rfl) (aab.mp hj).1
 have s2:=slot h.l h.z (h.sz _ _ hF' rfl) (aab.mp hj').1
 rw [e2] at e
 rcases Int.lt_trichotomy it.1 x with hlt | he | hlt
 ·haveI:=ue hlt h.l;exact id (fi [] [_,_,_,_,_,_,_,_,_,_] 0x90967185c810809811816c81087c4b1365cb124c03cb12098110918 hy.2 hy'.1 q e e3 s1.2 s2.1 this)
 ·exact h1 (he▸hx)
 ·haveI:=ue hlt h.l;exact id (fi [] [_,_,_,_,_,_,_,_,_,_] 0x90965187c8118208c8160981087c4a1365ca114c03ca12191009818 hy.1 hy'.2 q e e3 s1.1 s2.2 this)
theorem Gz.cells (h:Gz p len z F) {os:List (Int×Int)} (pm:os.Perm (ck p len F)) {cs:List Int} (hcs:(cs.length:Int)=p*len) (b:∀e∈ck p len F,0<=e.1/\1<=e.2/\e.1+e.2<=p*len)
  (b':∀e∈ck p len (B2 p len F z),0<=e.1/\1<=e.2/\e.1+e.2<=p*len) (w:IV (ck p len F)) (w':IV (ck p len (B2 p len F z))) {e:Int×Int} (he:e∈os) {t:Int} (ht:0<=t/\t<e.2) :
  (De z cs (gN p len F z))[(u0 (gN p len F z) e.1+t).toNat]? = cs[(e.1+t).toNat]? := by
 obtain ⟨h1,h2,h3,h4,h5⟩:=h.perm pm w λe he=>(b e he).2.1
 haveI dj:=h4.pairwise (w'.imp λ{a b} q=>(Or.inl q:a.1+a.2<=b.1\/b.1+b.2<=a.1)) λq=>q.symm
 obtain ⟨d1,d2,d3⟩:=aap.mp dj
 rcases h5 e he with ⟨q1,q2⟩ | ⟨m,hm,rfl,q2⟩
 ·rw [q2]
  refine wQ λm hm y y0 y1 q=> ?_
  haveI a:=d3 (m.2,z) (aav (f:=λm:Int×Int=>(m.2,z)) hm) e q1
  haveI c1:=b' _ (h4.mem_iff.mpr (aaE _ (aav (f:=λm:Int×Int=>(m.2,z)) hm)))
  haveI c2:=b e (pm.mem_iff.mp he)
  have e9:=tn (Int.add_nonneg c1.1 y0) (Int.add_nonneg c2.1 ht.1) q
  rcases a with a | a
  ·exact absurd e9 (Int.ne_of_lt (Int.lt_of_lt_of_le (Int.add_lt_add_left y1 m.2) (aa9 a (Int.le_add_of_nonneg_right ht.1))))
  ·exact absurd e9 (Int.ne_of_gt (Int.lt_of_lt_of_le (Int.add_lt_add_left ht.2 e.1) (aa9 a (Int.le_add_of_nonneg_right y0))))
 ·rw [q2]
  refine Df (N:=cs.length) rfl h.mv.asc (λm hm=> ?_) (λm hm m' hm' y y' hy hy'=>h.apart hm hm' hy hy') hm ht.1 ht.2
  have c1:=b' _ (h4.mem_iff.mpr (aaE _ (aav (f:=λm:Int×Int=>(m.2,z)) hm)))
  have c2:=b _ (pm.mem_iff.mp (h2 m hm))
  rw [hcs]
  exact ⟨⟨c2.1,c2.2.2⟩,c1.1,c1.2.2⟩
end
section
variable {c:Nat} {col:Nat->Nat} {H:Hp} {p len:Int} {xs:List Int} {ri:Nat} {r:Rm}
theorem RG.keep (h:RG c col H p len xs ri r) {F:List Nat} {H':Hp} {col':Nat->Nat} (ch:cM F H H') (hF:∀i∈F,i<H.length->col i≠c/\col i≠0) (hc:∀i,i<H.length->col' i=col i):RG c col' H' p len xs ri r:=by
 have pl:=bj h.rm.plan
 have m:=bj h.rm.sizes
 refine ⟨h.rm.chg ch λi hi hf=> ?_,h.ok,h.rp,h.rl,h.rx,λi hi=>(hc i (Ap h.rm i hi)).trans (h.cr i hi),(hc _ pl).trans h.cp,(hc _ m).trans h.cs⟩
 rcases AV i hi with hi | hi | hi
 ·exact (hF i hf (Ap h.rm i hi)).1 (h.cr i hi)
 ·subst hi;exact (hF _ hf pl).2 h.cp
 ·subst hi;exact (hF _ hf m).2 h.cs
theorem RG.inr (h:RG c col H p len xs ri r):∀g v,look r.ss g=some v->0<=g/\g<p:=λg v hv=>by
 obtain ⟨s,hs,_,_⟩:=bi hv
 haveI:=h.ok.pg s (aJ hs).1
 rw [(aJ hs).2,h.rp] at this;exact this
theorem RG.szok (h:RG c col H p len xs ri r) (z:Int):GU len z (look r.ss):=λg v hv hz=>by
 obtain ⟨s,hs,y1,y2⟩:=bi hv
 haveI:=h.ok.slots s (aJ hs).1
 rw [<- y2,this,h.rl,y1,hz]
theorem RG.sz (h:RG c col H p len xs ri r):je len xs:=h.rl▸h.rx▸h.ok.sz
theorem RG.few (h:RG c col H p len xs ri r):(ck p len (look r.ss)).length<=40000:=by
 haveI:∀ks:List Int,(ks.flatMap (c8 len (look r.ss))).length<=1000*ks.length:=λks=>by
  induction ks with
  | nil=>exact aaL _
  | cons g ks ih =>
   haveI:(c8 len (look r.ss) g).length<=1000:=by
    unfold c8
    split
    ·rename_i v hv
     obtain ⟨s,hs,_,y2⟩:=bi hv
     rw [aak,iu,<- y2]
     exact aam List.count_le_length (h.ok.bslen (aJ hs).1)
    ·exact Nat.zero_le _
   rw [aaS,aac,aau,Nat.mul_succ,Nat.add_comm];exact Nat.add_le_add ih this
 exact aam (this _) (Nat.mul_le_mul_left _ (pq p (h.rp▸h.ok.p.2) _))
theorem RG.page (h:RG c col H p len xs ri r) {g z:Int} {bs:List Bool} {j:Nat} (hg:look r.ss g=some (z,bs)) (hj:j<bs.length):1<=z/\0<=(j:Int)*z/\(j:Int)*z+z<=len:=by
 obtain ⟨s,hs,y1,y2⟩:=Dr hg
 have hz:=h.ok.szpos (aJ hs).1
 haveI hL:=h.ok.len
 rw [h.rl] at hL
 rw [y1] at hz
 exact ⟨hz.1,slot hL.1 hz.1 (h.szok z g _ hg rfl) hj⟩
theorem RG.in9 (h:RG c col H p len xs ri r) {e:Int×Int} (he:e∈ck p len (look r.ss)):0<=e.1/\1<=e.2/\e.1+e.2<=p*len:=by
 have hL:=h.ok.len
 rw [h.rl] at hL
 obtain ⟨g,z,bs,j,hF,hj,rfl⟩:=sV he
 haveI lj:=(aab.mp hj).1
 obtain ⟨hz,u1,u2⟩:=h.page hF lj
 have hg:=h.inr g _ hF
 haveI h1:=ue hg.2 hL.1
 haveI h2:0<=g*len:=Int.mul_nonneg hg.1 (by exact cI 0x98019811 hL.1)
 dsimp only
 exact id (⟨qw 0x1c09810981009812 u1 h2,hz,fi [] [_,_,_,_,_] 0x4103cc8423c81210c812 u2 h1⟩)
theorem RG.pl (h:RG c col H p len xs ri r):p*len<=2400:=by
 haveI hP:=h.ok.p
 have hL:=h.ok.len
 rw [h.rp] at hP
 rw [h.rl] at hL
 exact Int.mul_le_mul hP.2 hL.2 (by exact cI 0x98019811 hL.1) ∅
theorem RG.szin (h:RG c col H p len xs ri r) {e:Int×Int} (he:e∈ck p len (look r.ss)):e.2∈xs:=by
 obtain ⟨g,z,bs,j,hF,hj,rfl⟩:=sV he
 obtain ⟨s,hs,y1,y2⟩:=bi hF
 haveI:=h.ok.in' s (aJ hs).1
 rw [h.rx,y1] at this;exact this
theorem RG.gz (h:RG c col H p len xs ri r) {z:Int} (hz:z∈xs):Gz p len z (look r.ss):=by
 have hL:=h.ok.len
 rw [h.rl] at hL
 have z1:=h.sz.low z hz
 obtain ⟨u1,u2,u3,u4⟩:=dH (a:=len) (b:=z) (by exact cI 0x98019811 hL.1) z1
 exact ⟨h.inr,h.szok z,hL.1,tC u1 u4 (h.sz.top z hz),z1⟩
theorem RG.gap (h:RG c col H p len xs ri r):IV (ck p len (look r.ss)):=by
 rw [i9]
 haveI hL:=h.ok.len
 rw [h.rl] at hL
 have on:∀ {g:Int} {e:Int×Int},e∈c8 len (look r.ss) g->g*len<=e.1/\e.1+e.2<=g*len+len:=λ{g e} he=>by
  unfold c8 at he
  cases hF:look r.ss g with
  | none=>rw [hF] at he;cases he
  | some v =>
   rw [hF] at he
   obtain ⟨k,hk,rfl⟩:=aae.mp he
   obtain ⟨j,rfl,hj⟩:=f9 v.2 0 k hk
   rw [aa6]
   obtain ⟨hz,u1,u2⟩:=h.page (z:=v.1) (bs:=v.2) hF (aab.mp hj).1
   dsimp only;exact id (⟨qw 0x1c18009811 u1,Hi 0x23c103cc8210c811 u2⟩)
 refine List.pairwise_flatMap.mpr ⟨λg _=> ?_,(fu p).imp λ{a b} hab x hx y hy=> ?_⟩
 ·unfold c8
  cases hF:look r.ss g with
  | none=>exact .nil
  | some v =>
   obtain ⟨s,hs,y1,y2⟩:=bi hF
   haveI hz:=(h.ok.szpos (aJ hs).1).1
   rw [y1] at hz
   exact aaY.mpr ((wA v.2 0).2.imp λ{a b} hab=>by haveI:=ue hab hz;dsimp only;exact id (Hi 0x23c103cc8210c811 this))
 ·exact id (fi [] [_,_,_,_,_,_] 0x154c832c54c81032c8110813 (on hy).1 (ue hab hL.1) (on hx).2)
theorem RG.inj (h:RG c col H p len xs ri r) {e e':Int×Int} (he:e∈ck p len (look r.ss)) (he':e'∈ck p len (look r.ss)) {t t':Int} (ht:0<=t/\t<e.2) (ht':0<=t'/\t'<e'.2) (hq:e.1+t=e'.1+t'):e=e':=by
 haveI:∀ {l:List (Int×Int)},IV l->e∈l->e'∈l->e=e':=λ{l} hg h1 h2=>by
  induction hg with
  | nil=>cases h1
  | cons ha _ ih =>
   rcases aah.mp h1 with k1 | k1
   ·rcases aah.mp h2 with k2 | k2
    ·exact k1.trans k2.symm
    ·haveI:=ha _ k2;rw [<- k1] at this;exact id ((fi [] [_,_,_,_,_] 0x9096413c8124c03cb12098110914 ht.2 ht'.1 hq this).elim)
   ·rcases aah.mp h2 with k2 | k2
    ·haveI:=ha _ k1;rw [<- k2] at this;exact id ((fi [] [_,_,_,_,_] 0x9096324c8114c03ca12191009814 ht.1 ht'.2 hq this).elim)
    ·exact ih k1 k2
 exact this h.gap he he'
theorem RG.fst (h:RG c col H p len xs ri r):((ck p len (look r.ss)).map (·.1)).Nodup :=
 aaY.mpr (h.gap.imp_of_mem λ{a b} ha hb q=>by haveI:=(h.in9 ha).2.1;exact id (λx9=>EY 0x909620b111981210c813 q this x9))
end
structure Hd where
 pl:Int
 ad:Nat
 vs:List Int
noncomputable def Hd.ent (e:Hd):Int×V:=(e.pl,.ref e.ad)
noncomputable def Hd.thg (e:Hd):Int×Int:=(e.pl,(e.vs.length:Nat))
theorem Iw {c x:Nat} (h:x=c+1\/x=c+2):c<x/\x<c+3:=h.elim (λe=>e▸⟨Nat.lt_succ_self c,Nat.add_lt_add_left ∅ c⟩) λe=>e▸⟨Nat.lt_add_of_pos_right ∅,Nat.lt_succ_self _⟩
theorem JI {i n:Nat} (h:i<n):0<=(i:Int)/\(i:Int)<(n:Int):=⟨Int.natCast_nonneg i,Int.ofNat_lt.mpr h⟩
structure HG (c:Nat) (col:Nat->Nat) (H:Hp) (p len:Int) (xs:List Int) (ri d za:Nat) (r:Rm) (es:List Hd):Prop where
 r:RG c col H p len xs ri r
 cd:col d=c+1
 d:H[d]? = some (.dict (es.map Hd.ent))
 ca:∀e∈es,col e.ad=c+2
 l:∀e∈es,H[e.ad]? = some (.list (e.vs.map V.int))
 nd:(es.map Hd.ad).Nodup
 cz:col za=0
 z:H[za]? = some (.list (xs.map V.int))
 c1:1<=c
structure eg (p len:Int) (r:Rm) (es:List Hd):Prop where
 pm:(es.map Hd.thg).Perm (ck p len (look r.ss))
 ce:∀e∈es,∀(j:Nat) (v:Int),e.vs[j]? = some v->r.cs[(e.pl+j).toNat]? = some v
inductive AM (c:Nat) (col:Nat->Nat) (H:Hp) (p len:Int) (xs:List Int) (ri d za:Nat) (H':Hp):Prop
 | mk (col':Nat->Nat) (r:Rm) (es:List Hd) (g:HG c col' H' p len xs ri d za r es) (h:eg p len r es) (e:rU c col H col' H')
theorem wU:∀ {es:List Hd},(es.map Hd.pl).Nodup-> ∀ {e:Hd},e∈es->(es.map Hd.ent).lookup e.pl=some (.ref e.ad)
 | a::es,hn,e,he=>by
  obtain ⟨h1,h2⟩:=aaP.mp hn
  rw [aas]
  rcases aah.mp he with rfl | he
  ·exact List.lookup_cons_self
  ·haveI:(e.pl==a.pl)=false:=beq_false_of_ne λq=>h1 (q▸aav he)
   show (match e.pl==a.pl with | true=>_ | false=>_)=_
   rw [this];exact wU h2 he
theorem wV:∀ {es:List Hd} {a:Int},a∉es.map Hd.pl->(es.map Hd.ent).lookup a=none
 | [],_,_=>rfl
 | b::es,a,h=>by
  haveI:(a==b.pl)=false:=beq_false_of_ne λq=>h (q ▸ .head _)
  show (match a==b.pl with | true=>_ | false=>_)=_
  rw [this];exact wV λq=>h (.tail _ q)
theorem E8 (es:List Hd):(es.map Hd.ent).map (·.1)=es.map Hd.pl:=by rw [aaQ];rfl
theorem BF (es:List Hd):(es.map Hd.thg).map (·.1)=es.map Hd.pl:=by rw [aaQ];rfl
theorem wZ {α:Type} {f:Hd->α}:∀ {es:List Hd},(es.map f).Nodup-> ∀ {a b:Hd},a∈es->b∈es->f a=f b->a=b
 | x::es,hn,a,b,ha,hb,q=>by
  obtain ⟨h1,h2⟩:=aaP.mp hn
  rcases aah.mp ha with k1 | k1
  ·rcases aah.mp hb with k2 | k2
   ·exact k1.trans k2.symm
   ·exact absurd (k1▸q▸aav k2) h1
  ·rcases aah.mp hb with k2 | k2
   ·exact absurd (k2▸q▸aav k1) h1
   ·exact wZ h2 k1 k2 q
section
variable {c:Nat} {col:Nat->Nat} {H:Hp} {p len:Int} {xs:List Int} {ri d za:Nat} {r:Rm} {es:List Hd} {l:bk}
theorem AM.trans {col':Nat->Nat} {H1 H2:Hp} (e:rU c col H col' H1) (h:AM c col' H1 p len xs ri d za H2):AM c col H p len xs ri d za H2:=by
 cases h with
 | mk col2 r es g h e2=>exact ⟨col2,r,es,g,h,e.trans e2⟩
theorem HG.room (h:HG c col H p len xs ri d za r es) {H':Hp} {r':Rm} (a:aF H' ri r') (ok:r'.Ok) (sm:r.Sm r') (ch:cM (r.own ri) H H') (ow:∀i∈r'.own ri,i∈r.own ri\/H.length<=i) :
  HG c (iP col H.length c (r'.own ri)) H' p len xs ri d za r' es/\rU c col H (iP col H.length c (r'.own ri)) H':=by
 obtain ⟨x,e⟩:=h.r.step a ok sm ch ow
 have w1:=e.get h.d (by rw [h.cd];exact id (λx9=>bO 0x90960190c211 x9))
 have w2:=e.get h.z (by rw [h.cz];haveI:=h.c1;exact id (λx9=>bO 0x909600931019012 this x9))
 have w3:=λy hy=>e.get (h.l y hy) (by rw [h.ca y hy];exact id (λx9=>bO 0x90960290c211 x9))
 exact ⟨⟨x,w1.2.trans h.cd,w1.1,λy hy=>(w3 y hy).2.trans (h.ca y hy),λy hy=>(w3 y hy).1,h.nd,w2.2.trans h.cz,w2.1,h.c1⟩,e.evo (by exact ⟨bO 0x0,bO 0x390c010⟩)⟩
theorem HG.mine (h:HG c col H p len xs ri d za r es) {F O:List Nat} {H':Hp} {es':List Hd} (ch:cM F H H') (hF:∀i∈F,i<H.length->col i=c+1\/col i=c+2) (hd:H'[d]? = some (.dict (es'.map Hd.ent)))
  (ha:∀e∈es',iP col H.length (c+2) O e.ad=c+2) (hl:∀e∈es',H'[e.ad]? = some (.list (e.vs.map V.int))) (nd:(es'.map Hd.ad).Nodup) :
  HG c (iP col H.length (c+2) O) H' p len xs ri d za r es'/\rU c col H (iP col H.length (c+2) O) H':=by
 haveI c1:=h.c1
 have hz:=bj h.z
 refine ⟨⟨h.r.keep ch (λi hi hl=> ?_) λi hi=>cS hi,(cS (bj h.d)).trans h.cd,hd,ha,hl,nd,(cS hz).trans h.cz,ch.get h.z λhi=> ?_,c1⟩,ch.len,λi hi hc=>ch.same i hi λhf=> ?_,λi hi=>cS hi⟩
 ·exact ⟨Nat.ne_of_gt (Iw (hF i hi hl)).1,Nat.ne_of_gt (Nat.lt_of_le_of_lt (Nat.zero_le _) (Iw (hF i hi hl)).1)⟩
 ·exact absurd (h.cz▸(Iw (hF _ hi hz)).1) (Nat.not_lt_zero _)
 ·exact hc.elim (λq=>Nat.lt_asymm q (Iw (hF _ hf hi)).1) λq=>Nat.not_lt.mpr q (Iw (hF _ hf hi)).2
theorem HG.pre (h:HG c col H p len xs ri d za r es) {H':Hp} (e:H<+:H'):HG c (iP col H.length (c+2) []) H' p len xs ri d za r es/\rU c col H (iP col H.length (c+2) []) H' :=
 h.mine (F:=[]) (cM.pre e) (λi hi=>(nomatch hi)) (aE e h.d) (λy hy=>(cS (bj (h.l y hy))).trans (h.ca y hy)) (λy hy=>aE e (h.l y hy)) h.nd
theorem HG.frame (h:HG c col H p len xs ri d za r es) {c':Nat} {col':Nat->Nat} {H':Hp} (e:rU c' col H col' H') (h1:1<=c') (h2:c+3<=c'\/c'+3<=c):HG c col' H' p len xs ri d za r es:=by
 have g:∀ {i o},H[i]? = some o->col i=0\/(c<=col i/\col i<c+3)->H'[i]? = some o/\col' i=col i:=λhg hi=>⟨by rw [e.same _ (bj hg) (hi.elim (λq=> .inl (q▸h1)) λq=>h2.elim (λk=> .inl (aaX q.2 k)) λk=> .inr (aam k q.1))];exact hg,e.col _ (bj hg)⟩
 have w1:=g h.d (.inr (by rw [h.cd];exact id (⟨bO 0x190c000,bO 0x390c190c10⟩)))
 have w2:=g h.z (.inl h.cz)
 have w3:=λy hy=>g (h.l y hy) (.inr (by rw [h.ca y hy];exact id (⟨bO 0x290c000,bO 0x390c290c10⟩)))
 exact ⟨h.r.keep e.chg (λi hi hl=>⟨λq=>h2.elim (λk=>Nat.not_le.mpr (Nat.lt_add_of_pos_right ∅) (aam k (q▸(pG.mp hi).2.1))) λk=>Nat.lt_irrefl _ (aaX (q▸(pG.mp hi).2.2) k),λq=>absurd (aam h1 (q▸(pG.mp hi).2.1)) ∅⟩) e.col,w1.2.trans h.cd,w1.1,λy hy=>(w3 y hy).2.trans (h.ca y hy),λy hy=>(w3 y hy).1,h.nd,w2.2.trans h.cz,w2.1,h.c1⟩
theorem HG.keys (h:HG c col H p len xs ri d za r es) (o:eg p len r es):(es.map Hd.pl).Nodup:=by
 rw [<- BF];exact (o.pm.map _).nodup_iff.mpr h.r.fst
theorem HG.few (h:HG c col H p len xs ri d za r es) (o:eg p len r es):es.length<=40000:=by
 haveI:=o.pm.length_eq
 rw [aak] at this
 rw [this];exact h.r.few
theorem HG.b (h:HG c col H p len xs ri d za r es) (o:eg p len r es) {e:Hd} (he:e∈es):0<=e.pl/\1<=e.vs.length/\e.pl+(e.vs.length:Nat)<=2400:=by
 have:=h.r.in9 (o.pm.mem_iff.mp (aav (f:=Hd.thg) he))
 exact ⟨this.1,Int.ofNat_le.mp this.2.1,aa9 this.2.2 h.r.pl⟩
theorem HG.item (h:HG c col H p len xs ri d za r es) (o:eg p len r es) {e:Hd} (he:e∈es) (l:bk):aW (.ref d) (.int e.pl) ⟨l,H⟩= .ok (.ref e.ad) ⟨l,H⟩:=Dz h.d (wU (h.keys o) he)
theorem HG.ln (h:HG c col H p len xs ri d za r es) (o:eg p len r es) {e:Hd} (he:e∈es) (l:bk):dw [.ref e.ad] ⟨l,H⟩= .ok (.int (e.vs.length:Nat)) ⟨l,H⟩:=by
 have b:=h.b o he
 haveI:=cj (l:=l) (h.l e he) (by rw [aak];exact id (dE 0xf4240a01000960a0f0c81009812 b.1 b.2.2))
 rw [aak] at this;exact this
theorem HG.at8 (h:HG c col H p len xs ri d za r es) (o:eg p len r es) {e:Hd} (he:e∈es):∃(g z:Int) (s:bD) (j:Nat),A6 (dz r.ss g=some s) (s.sz=z) (s.bs[j]? = some true) (look r.ss g=some (z,s.bs)) (e.pl=g*r.len+j*z) ((e.vs.length:Int)=z):=by
 obtain ⟨g,z,bs,j,hF,hj,q⟩:=sV (o.pm.mem_iff.mp (aav (f:=Hd.thg) he))
 obtain ⟨s,hs,y1,y2⟩:=Dr hF
 subst y2
 rw [h.r.rl]
 exact ⟨g,z,s,j,hs,y1,hj,hF,(Prod.mk.inj q).1,(Prod.mk.inj q).2⟩
theorem HG.get (h:HG c col H p len xs ri d za r es) (o:eg p len r es) {e:Hd} (he:e∈es) {k:Nat} {v:Int} (hk:e.vs[k]? = some v):gq [.inst "Room" ri,.int e.pl,.int k] H= .ok (.int v) H:=by
 obtain ⟨g,z,s,j,hs,y1,hj,_,q1,q2⟩:=h.at8 o he
 haveI hl:=(aab.mp hk).1
 obtain ⟨u,w1,w2⟩:=HP h.r.rm h.r.ok hs y1 hj (j:=k) (by exact bO 0xf0980) (by exact kK 0x1f9011100fa12 q2 hl)
 rw [<- q1] at w1 w2
 rw [o.ce e he k v hk] at w2
 cases w2;exact w1
noncomputable def FL (es:List Hd) (a k:Nat) (x:Int):List Hd:=es.map λe=>if e.ad=a then { e with vs:=e.vs.set k x } else e
theorem xq {α:Type} (f:Hd->α) (es:List Hd) (a k:Nat) (x:Int) (hf:∀e:Hd,f { e with vs:=e.vs.set k x }=f e):(FL es a k x).map f=es.map f:=by
 unfold FL;rw [aaQ]
 exact abf λe _=>by show f (if _ then _ else _)=_;split;exact hf e;rfl
inductive Jc (c:Nat) (col:Nat->Nat) (H:Hp) (p len:Int) (xs:List Int) (ri d za:Nat) (r:Rm) (es:List Hd) (e:Hd) (k:Nat) (x:Int):Prop
 | mk (H1 H2:Hp) (col':Nat->Nat) (r':Rm) (es':List Hd) (s:∀l,bL (.ref e.ad) (.int k) (.int x) ⟨l,H⟩= .ok () ⟨l,H1⟩) (m:∀l,db "Room" "write" (.inst "Room" ri) ⟨l,H1⟩= .ok () ⟨l,H1⟩)
  (w:de [.inst "Room" ri,.int e.pl,.int k,.int x] H1= .ok .none H2) (g:HG c col' H2 p len xs ri d za r' es') (h:eg p len r' es') (ev:rU c col H col' H2) (lk:look r'.ss=look r.ss) (ks:es'.map Hd.pl=es.map Hd.pl)
theorem HG.put (h:HG c col H p len xs ri d za r es) (o:eg p len r es) {e:Hd} (he:e∈es) {k:Nat} (hk:k<e.vs.length) (x:Int):Jc c col H p len xs ri d za r es e k x:=by
 have b:=h.b o he
 haveI hs:∀l,bL (.ref e.ad) (.int k) (.int x) ⟨l,H⟩= .ok () ⟨l,H.set e.ad (.list ((e.vs.set k x).map V.int))⟩:=λl=>by
  haveI:=HD (l:=l) (.int x) (h.l e he) (i:=k) (by rw [aak];exact hk) (by rw [aak];exact id (dE 0xf4240a00000960a0f0c81009812 b.1 b.2.2))
  rw [this,List.map_set]
 refine bH (H.set e.ad (.list ((e.vs.set k x).map V.int))) λH1 eH=> ?_
 rw [eH] at hs
 have c0:=h.ca e he
 have ch:cM [e.ad] H H1:=eH▸cM.set (.head _)
 haveI q1:H1[e.ad]? = some (.list ((e.vs.set k x).map V.int)):=by rw [<- eH];exact aaB (bj (h.l e he))
 have up:∀y∈FL es e.ad k x,(y={ e with vs:=e.vs.set k x })\/(y∈es/\y.ad≠e.ad):=λy hy=>by
  obtain ⟨y0,h0,rfl⟩:=aae.mp hy
  by_cases q:y0.ad=e.ad
  ·rw [if_pos q,wZ h.nd h0 he q];exact .inl rfl
  ·rw [if_neg q];exact .inr ⟨h0,q⟩
 obtain ⟨g1,E1⟩:=h.mine (O:=[]) (es':=FL es e.ad k x) ch (λi hi _=>by rw [aag.mp hi];exact .inr c0) (by
   rw [xq Hd.ent _ _ _ _ λ_=>rfl]
   exact ch.get h.d λq=>by haveI:=h.cd;rw [aag.mp q] at this;exact id (bP 0x9096191c021291c0312 c0 this)) (λy hy=>by
   rcases up y hy with rfl | ⟨hy,_⟩
   ·exact (cS (bj (h.l e he))).trans c0
   ·exact (cS (bj (h.l y hy))).trans (h.ca y hy)) (λy hy=>by
   rcases up y hy with rfl | ⟨hy,q⟩
   ·exact q1
   ·exact ch.get (h.l y hy) λq'=>q (aag.mp q')) (by rw [xq Hd.ad _ _ _ _ λ_=>rfl];exact h.nd)
 obtain ⟨g,z,s,j,hf,y1,hj,_,p1,p2⟩:=h.at8 o he
 obtain ⟨H2,w1,w2,w3,w4,w5⟩:=FZ g1.r.rm h.r.ok hf y1 hj (j:=k) (by exact bO 0xf0980) (by exact kK 0xf901fa110112 hk p2) x
 obtain ⟨g2,E2⟩:=g1.room w2 w3 (Rm.Sm.cs r _) w4 λi hi=> .inl hi
 rw [<- p1] at w1 w5 g2
 refine ⟨H1,H2,_,_,_,hs,λl=>aS g1.r.rm ∅ l,w1,g2,⟨?_,λy hy i v hv=> ?_⟩,E1.trans E2,rfl,xq Hd.pl _ _ _ _ λ_=>rfl⟩
 ·rw [xq Hd.thg _ _ _ _ λ_=>by unfold Hd.thg;dsimp only;rw [List.length_set]];exact o.pm
 ·show (r.cs.set _ x)[_]? = _
  rcases up y hy with rfl | ⟨hy,q⟩
  ·dsimp only at hv ⊢
   by_cases hi:k=i
   ·subst hi
    rw [aaB hk] at hv
    cases hv;exact w5
   ·rw [aaC hi] at hv
    rw [aaC (by exact λx9=>(aar hi).elim (λy2=>fi [_,_,_,_] [_] 0x90961f3f0c812f0c0fa1321110314 x9 y2 (aai (dE 0xf0c098009811 b.1)) (aaH _)) (λy2=>fi [_,_,_,_] [_] 0x90962f0c1fa10f3f0c81321110214 x9 y2 (aaH _) (aai (dE 0xf0c098009811 b.1))))]
    exact o.ce e he i v hv
  ·haveI hl:=(aab.mp hv).1
   haveI b':=h.b o hy
   rw [aaC λq'=>q ?_]
   ·exact o.ce y hy i v hv
   ·haveI:=h.r.inj (o.pm.mem_iff.mp (aav (f:=Hd.thg) hy)) (o.pm.mem_iff.mp (aav (f:=Hd.thg) he)) (t:=i) (t':=k) (JI hl) (JI hk) (by unfold Hd.thg;dsimp only;exact id (aa4 (fi [_,_,_,_] [_,_] 0x2f0c3f1c81f3f1c812f0c0fa110313 q' (aai (dE 0xf0c098009811 b.1)) (aaH _)) (fi [_,_,_,_] [_,_] 0x3f1c2f0c83f1c1fa10f2f0c8110213 q' (aaH _) (aai (dE 0xf0c098009811 b'.1)))))
    rw [wZ (h.keys o) hy he (Prod.mk.inj this).1]
end
theorem AI {b:Int} {i:Nat}:∀ {ys cs:List Int},(∀y∈ys,(b+y).toNat≠i)->(zS b cs ys)[i]? = cs[i]?
 | [],_,_=>rfl
 | y::ys,cs,h=>by
  show (zS b (cs.set (b+y).toNat 0) ys)[i]? = _
  rw [AI λy hy=>h y (.tail _ hy),aaC (h y (.head _))]
theorem GF {b:Int} {i:Nat}:∀ {ys cs:List Int},i<cs.length->(∃y∈ys,(b+y).toNat=i)->(zS b cs ys)[i]? = some 0
 | [],_,_,hy=>by obtain ⟨_,h,_⟩:=hy;cases h
 | y::ys,cs,hi,hy=>by
  show (zS b (cs.set (b+y).toNat 0) ys)[i]? = _
  by_cases h:∃y'∈ys,(b+y').toNat=i
  ·exact GF (by rw [List.length_set];exact hi) h
  ·obtain ⟨y0,h0,q⟩:=hy
   rw [AI λy' hy' q'=>h ⟨y',hy',q'⟩]
   rcases aah.mp h0 with h0 | h0
   ·rw [<- h0,q,aaB hi]
   ·exact absurd ⟨y0,h0,q⟩ h
theorem GB {H:Hp} {l:bk} {d:Nat} {es:List (Int×V)} (k:Int) (v:V) (h:H[d]? = some (.dict es)) (hl:es.length<1000000):bL (.ref d) (.int k) v ⟨l,H⟩= .ok () ⟨l,H.set d (.dict (tz k v es))⟩:=by
 unfold bL;dsimp only;rw [h];exact if_pos hl
theorem AY {es:List Hd} {e:Hd} (h:e.pl∉es.map Hd.pl):tz e.pl (.ref e.ad) (es.map Hd.ent)=(es++[e]).map Hd.ent:=by
 unfold tz;rw [wV h,if_neg ∅,aa7];rfl
section
variable {c:Nat} {col:Nat->Nat} {H:Hp} {p len:Int} {xs:List Int} {ri d za:Nat} {r:Rm} {es:List Hd} {l:bk}
inductive I7 (c:Nat) (col:Nat->Nat) (H:Hp) (p len:Int) (xs:List Int) (ri d za:Nat) (r:Rm) (es:List Hd) (e:Hd):Prop
 | mk (H2 H3:Hp) (col':Nat->Nat) (a:∀l,fN [.int 0] ⟨l,H⟩= .ok (.ref H.length) ⟨l,H++[.list [.int 0]]⟩) (b:∀l,gB (.ref H.length) (.int (e.vs.length:Nat)) ⟨l,H++[.list [.int 0]]⟩= .ok (.ref e.ad) ⟨l,H2⟩)
  (s:∀l,bL (.ref d) (.int e.pl) (.ref e.ad) ⟨l,H2⟩= .ok () ⟨l,H3⟩) (g:HG c col' H3 p len xs ri d za r (es++[e])) (ev:rU c col H col' H3)
theorem HG.add (h:HG c col H p len xs ri d za r es) {pl:Int} (hn:pl∉es.map Hd.pl) {n:Nat} (hz:n<=1000000) (hf:es.length<1000000):I7 c col H p len xs ri d za r es ⟨pl,H.length+1,List.replicate n 0⟩:=by
 haveI a:∀l,fN [.int 0] ⟨l,H⟩= .ok (.ref H.length) ⟨l,H++[.list [.int 0]]⟩:=λl=>by rw [kQ];exact if_pos (show 1<=1000000 by decide)
 haveI b:∀l,gB (.ref H.length) (.int (n:Nat)) ⟨l,H++[.list [.int 0]]⟩= .ok (.ref (H.length+1)) ⟨l,H++[.list [.int 0]]++[.list ((List.replicate n (0:Int)).map V.int)]⟩:=λl=>by
  haveI:=xh (l:=l) (f:=V.int) (a:=(0:Int)) (k:=(n:Nat)) (ba H (.list [.int 0])) (by exact ⟨bO 0xf0980,bO 0xf4240a0f80f4240a0011 hz⟩)
  rw [aac] at this;exact this
 refine bH (H++[.list [.int 0]]++[.list ((List.replicate n (0:Int)).map V.int)]) λH2 eH2=> ?_
 rw [eH2] at b
 have p2:H<+:H2:=by rw [<- eH2,aad];exact ⟨_,rfl⟩
 haveI q2:H2[H.length+1]? = some (.list ((List.replicate n (0:Int)).map V.int)):=by
  haveI:=ba (H++[.list [.int 0]]) (.list ((List.replicate n (0:Int)).map V.int))
  rw [eH2,aac] at this;exact this
 have hd:=bj h.d
 haveI s:=λl=>GB (l:=l) pl (.ref (H.length+1)) (aE p2 h.d) (by rw [aak];exact hf)
 haveI dn:=AY (e:=(⟨pl,H.length+1,List.replicate n 0⟩:Hd)) hn
 dsimp only at dn
 rw [dn] at s
 refine bH (H2.set d (.dict ((es++[(⟨pl,H.length+1,List.replicate n 0⟩:Hd)]).map Hd.ent))) λH3 eH3=> ?_
 rw [eH3] at s
 have ch:cM [d] H2 H3:=eH3▸cM.set (.head _)
 haveI ln:(List.replicate n (0:Int)).length=n:=List.length_replicate
 obtain ⟨g,ev⟩:=h.mine (O:=[H.length+1]) (es':=es++[⟨pl,H.length+1,List.replicate n 0⟩]) ((cM.pre p2).trans ch) (λi hi _=>by rw [aag.mp hi];exact .inl h.cd) (by rw [<- eH3];exact aaB (aaX hd p2.length_le)) (λe he=>by
   rcases aan.mp he with he | he
   ·exact (cS (bj (h.l e he))).trans (h.ca e he)
   ·rw [aag.mp he];exact um (by show ¬H.length+1<H.length;exact id (bO 0x190c50)) (.head _)) (λe he=>by
   rcases aan.mp he with he | he
   ·exact ch.get (aE p2 (h.l e he)) λq=>by haveI:=h.ca e he;rw [aag.mp q] at this;exact absurd (this.symm.trans h.cd) (Nat.succ_ne_self _)
   ·rw [aag.mp he];exact ch.get q2 λq=>by rw [<- aag.mp q] at hd;exact absurd hd (by show ¬H.length+1<H.length;exact id (bO 0x190c50))) (by
   rw [aa7]
   refine List.nodup_append.mpr ⟨h.nd,aaP.mpr ⟨λh=>(nomatch h),.nil⟩,λa ha b hb q=> ?_⟩
   obtain ⟨e,he,rfl⟩:=aae.mp ha
   rw [aag.mp hb] at q
   haveI:=bj (h.l e he)
   rw [q] at this
   exact absurd this (by show ¬H.length+1<H.length;exact id (bO 0x190c50)))
 exact ⟨H2,H3,_,a,by dsimp only;rw [ln];exact b,s,g,ev⟩
inductive I9 (c:Nat) (col:Nat->Nat) (H:Hp) (p len:Int) (xs:List Int) (ri d za:Nat) (r:Rm) (es:List Hd) (w nb z:Int) (gF:Int×Vw):Prop
 | mk (H':Hp) (col':Nat->Nat) (r':Rm) (es':List Hd) (bs:List Bool) (k:Nat) (t:jQ [.inst "Room" ri,.tup [.int p,.int len,.ref za],.ref d,.int w,.int nb] H= .ok (.bool true) H') (g:HG c col' H' p len xs ri d za r' es') (h:eg p len r' es') (ev:rU c col H col' H')
  (b:gF.2 gF.1=some (z,bs)) (f:bg bs=some k) (lk:look r'.ss=cL gF.2 gF.1 (some (z,bs.set k true))) (ks:es'.map Hd.pl=es.map Hd.pl++[gF.1*len+k*z])
theorem A0 (h:HG c col H p len xs ri d za r es) (o:eg p len r es) {w:Int} (hw:1<=w) (nb:Int) {z:Int} (hf:xs.find? (λx=>decide (x>=w))=some z) {gF:Int×Vw} (hp:yY p len (look r.ss) z=some gF):I9 c col H p len xs ri d za r es w nb z gF:=by
 refine nK λG kG=> ?_
 refine bH (aX ["_law_room", "_law_drawn", "_law_held_here", "_law_wish", "_law_number"] [.inst "Room" ri,.tup [.int p,.int len,.ref za],.ref d,.int w,.int nb]) λl0 e0=> ?_
 haveI a1:l0 "_law_room" = some (.inst "Room" ri):=e0▸rfl
 haveI a2:l0 "_law_drawn" = some (.tup [.int p,.int len,.ref za]):=e0▸rfl
 haveI a3:l0 "_law_held_here" = some (.ref d):=e0▸rfl
 have a4:l0 "_law_wish" = some (.int w):=e0▸rfl
 haveI a5:l0 "_law_number" = some (.int nb):=e0▸rfl
 haveI d2:∀q,aW (.tup [.int p,.int len,.ref za]) (.int 2) q= .ok (.ref za) q:=λq=>rfl
 have sb:=qx h.z w
 rw [hf,Option.getD_some] at sb
 refine bH (upd l0 "_law_size" (.int z)) λl1 el1=> ?_
 have t1:mZ ⟨l0,H⟩= .ok .next ⟨l1,H⟩:=by exists a2,d2,a4,sb,el1
 haveI v:=EI h.r.rm h.r.ok hw
 rw [h.r.rp,h.r.rl,h.r.rx,hf] at v
 dsimp only at v
 rw [hp] at v
 obtain ⟨bs,k,r1,H1,f1,f2,v1,v2,v3,v4,v5,v6,v7,v8⟩:=v
 obtain ⟨g1,E1⟩:=h.room v2 v3 v4 v6 v7
 obtain ⟨P,eF⟩:=FH h.r.inr hp f1 f2
 have pm1:(ck p len (look r1.ss)).Perm ((gF.1*len+k*z,z)::ck p len (look r.ss)):=by rw [v5,eF];exact uR P.hg P.thg (wb f2)
 refine bH (gF.1*len+k*z) λpl epl=> ?_
 rw [epl] at v1 pm1 v8
 have hin:=pm1.symm.mem_iff.mp (.head _)
 have b1:=g1.r.in9 hin
 have bp:=g1.r.pl
 dsimp only at b1
 have hno:pl∉es.map Hd.pl:=λq=>by
  haveI h1:=(pm1.map (·.1)).nodup_iff.mp g1.r.fst
  haveI h2:=(aaP.mp h1).1
  rw [<- BF] at q
  exact h2 ((o.pm.map (·.1)).mem_iff.mp q)
 have hfw:=h.few o
 obtain ⟨n,en⟩:∃n:Nat,z=n:=⟨z.toNat,by exact aa4 ((aaH _)) (dE 0xf800fa11 (aai (cI 0x98019811 b1.2.1)))⟩
 subst en
 cases g1.add hno (n:=n) (by exact Ck 0xf4240a0000f1c8110981000960a0813 bp b1.1 b1.2.2) (by exact bO 0xf4240a01009c40a0011 hfw) with
 | mk H2 H3 col3 na nm ns g3 E3 =>
 obtain ⟨e0',ee⟩:∃e:Hd,(⟨pl,H1.length+1,List.replicate n 0⟩:Hd)=e:=⟨_,rfl⟩
 rw [ee] at nm ns g3
 have ev1:e0'.pl=pl:=ee▸rfl
 have ev2:e0'.vs=List.replicate n 0:=ee▸rfl
 have ev3:e0'.vs.length=n:=by rw [ev2];exact List.length_replicate
 rw [ev1] at ns
 rw [ev3] at nm
 haveI eth:e0'.thg=(pl,(n:Int)):=by unfold Hd.thg;rw [ev1,ev3]
 have o3:eg p len r1 (es++[e0']):=by
  refine ⟨?_,λe he j v hv=> ?_⟩
  ·rw [aa7,List.map_singleton,eth]
   exact List.perm_append_comm.trans ((o.pm.cons _).trans pm1.symm)
  ·have hl:=(aab.mp hv).1
   rw [v8]
   rcases aan.mp he with he | he
   ·rw [AI λy hy q=>hno ?_]
    ·exact o.ce e he j v hv
    ·haveI hb:=h.b o he
     have hy:=bU.mp hy
     haveI:=g1.r.inj (e:=e.thg) (e':=(pl,(n:Int))) (pm1.symm.mem_iff.mp (.tail _ (o.pm.mem_iff.mp (aav he)))) hin (t:=j) (t':=y) (by unfold Hd.thg;dsimp only;exact id (⟨bO 0xf0980,bP 0x1f0f910111 hl⟩)) hy (by unfold Hd.thg;dsimp only;exact id (aa4 (fi [_,_,_] [_,_,_] 0x10c2f2c81f2f2c8110c0fa110313 q (aai (qw 0x10c09810981009812 b1.1 hy.1)) (aaH _)) (fi [_,_,_] [_,_,_] 0x2f2c10c82f2c1fa10f10c8110213 q (aaH _) (aai (dE 0xf0c098009811 hb.1)))))
     rw [<- (Prod.mk.inj this).1];exact aav he
   ·rw [aag.mp he] at hv hl ⊢
    rw [ev2,List.getElem?_replicate] at hv
    rw [ev3] at hl
    rw [if_pos hl] at hv
    cases hv
    haveI hc:=h.r.ok.cs
    rw [h.r.rp,h.r.rl] at hc
    rw [ev1]
    exact GF (by exact fi [_,_,_,_] [_,_] 0x2311f0c3fa112fb1011110f0c814 b1.2.2 hl hc (aai (dE 0xf0c098009811 b1.1))) ⟨j,bU.mpr (by exact ⟨bO 0xf0980,bP 0x1f0f910111 hl⟩),rfl⟩
 refine bH (upd l1 "_law_place" (.int pl)) λl2 el2=> ?_
 have b1':=ah el1 ∅ a1
 haveI b4:=ah el1 ∅ a4
 have t2:rQ ⟨l1,H⟩= .ok .next ⟨l2,H1⟩:=Gl (by exists b1',aS h.r.rm (f := "wish") ∅,b4,v1,el2)
 have c1:=az el2
 have c2:=ah el2 ∅ (az el1)
 have c3:=ah el2 ∅ (ah el1 ∅ a3)
 haveI c4:=ah el2 ∅ b1'
 have c5:=ah el2 ∅ (ah el1 ∅ a5)
 haveI k0:decide ((n:Int)=0)=false:=decide_eq_false (by exact λx9=>bO 0x9096090fa10f19812 b1.2.1 x9)
 haveI inn:rk (.int pl) (.ref d) ⟨l2,H1⟩= .ok false ⟨l2,H1⟩:=by rw [Hh pl g1.d,wV hno];rfl
 have t3:rR ⟨l2,H1⟩= .ok .next ⟨l2,H1⟩:=by exists c2,k0,c1,d5,c3,inn
 have t4:rS ⟨l2,H1⟩= .ok .next ⟨l2,H3⟩:=by exists na,c2,nm,c3,c1,ns
 have he0:e0'∈es++[e0']:=aat _ (.head _)
 have ks3:(es++[e0']).map Hd.pl=es.map Hd.pl++[gF.1*len+k*(n:Int)]:=by rw [aa7,epl,List.map_singleton,ev1]
 have m2:∀q,bw (.int nb) (.int 2) q= .ok (.int (nb.fmod 2)) q:=λq=>c9 ∅ rfl
 by_cases hb:nb.fmod 2=1
 ·haveI kb:decide (nb.fmod 2=1)=true:=decide_eq_true hb
  cases g3.put o3 he0 (k:=n-1) (by rw [ev3];exact id (bP 0x1011190c211 (aaa (bO 0x1900f19811 b1.2.1)))) nb with
  | mk H4 H5 col5 r5 es5 s4 m4 w5 g5 o5 E5 lk5 ks5 =>
  rw [ev1] at w5
  haveI it:=g3.item o3 he0 l2
  rw [ev1] at it
  have sb1:∀q,xG (.int (n:Int)) (.int 1) q= .ok (.int ((n-1:Nat):Int)) q:=λq=>by rw [show ((n-1:Nat):Int)=(n:Int)-1 by exact aa4 (bP 0x191fe0f81190c211 (aaa (bO 0x1900f19811 b1.2.1))) (bP 0x1f190fe8191c0011 (sA _ _))];rfl
  refine kG ⟨H5,col5,r5,es5,bs,k,a9 (m:=jU) (q:=⟨l2,H5⟩) rfl ?_,g5,o5,(E1.trans E3).trans E5,f1,f2,lk5.trans v5,ks5.trans ks3⟩
  rw [e0]
  refine ak t1 (ak t2 (ak t3 (ak t4 (ak (q':=⟨l2,H5⟩) (bq (a:=true) (q':=⟨l2,H3⟩) ?_ (it_t rfl (ak (q':=⟨l2,H4⟩) ?_ ?_))) rfl))))
  ·exists c5,m2,kb
  ·exists c5,c3,c1,it,c2,sb1,s4
  ·exists c4,m4,c1,c2,sb1,c5,w5
 ·haveI kb:decide (nb.fmod 2=1)=false:=decide_eq_false hb
  refine kG ⟨H3,col3,r1,_,bs,k,a9 (m:=jU) (q:=⟨l2,H3⟩) rfl ?_,g3,o3,E1.trans E3,f1,f2,v5,ks3⟩
  rw [e0]
  refine ak t1 (ak t2 (ak t3 (ak t4 (ak (q':=⟨l2,H3⟩) ?_ rfl))))
  exists c5,m2,kb
theorem HM (h:HG c col H p len xs ri d za r es) (o:eg p len r es) {w:Int} (hw:1<=w) (nb:Int):∃H',jQ [.inst "Room" ri,.tup [.int p,.int len,.ref za],.ref d,.int w,.int nb] H= .ok (.bool true) H'/\AM c col H p len xs ri d za H':=by
 refine nK λG kG=> ?_
 refine bH ((xs.find? λx=>decide (x>=w)).getD 0) λy ey=> ?_
 refine bH (aX ["_law_room", "_law_drawn", "_law_held_here", "_law_wish", "_law_number"] [.inst "Room" ri,.tup [.int p,.int len,.ref za],.ref d,.int w,.int nb]) λl0 e0=> ?_
 haveI a1:l0 "_law_room" = some (.inst "Room" ri):=e0▸rfl
 haveI a2:l0 "_law_drawn" = some (.tup [.int p,.int len,.ref za]):=e0▸rfl
 have a4:l0 "_law_wish" = some (.int w):=e0▸rfl
 haveI d2:∀q,aW (.tup [.int p,.int len,.ref za]) (.int 2) q= .ok (.ref za) q:=λq=>rfl
 have sb:=qx h.z w
 rw [ey] at sb
 refine bH (upd l0 "_law_size" (.int y)) λl1 el1=> ?_
 have t1:mZ ⟨l0,H⟩= .ok .next ⟨l1,H⟩:=by exists a2,d2,a4,sb,el1
 have b1:=ah el1 ∅ a1
 have b4:=ah el1 ∅ a4
 have b5:=az el1
 have v:=EI h.r.rm h.r.ok hw
 rw [h.r.rp,h.r.rl,h.r.rx] at v
 cases hf:xs.find? (λx=>decide (x>=w)) with
 | none =>
  rw [hf] at v ey
  subst ey
  refine kG ⟨H,a9 (m:=jU) (q:=⟨l1,H⟩) rfl ?_,col,r,es,h,o,rU.refl _ _ _⟩
  rw [e0]
  refine ak t1 (cX (wW (bx (bq (g_get b1) (bq (aS h.r.rm ∅ _) (bq (bq (g_get b4) (bq rfl rfl)) (ky v))))) ?_))
  rw [if_pos rfl]
  exact bq (bq (g_get b5) (bq rfl (bq (g_ceq rfl) rfl))) rfl
 | some z =>
  rw [hf] at v ey
  haveI ey:z=y:=ey
  subst ey
  haveI hz1:=h.r.sz.low z (aaT hf)
  haveI k1:decide (z>0)=true:=decide_eq_true (by exact cI 0x99019811 hz1)
  dsimp only at v
  cases hp:yY p len (look r.ss) z with
  | none =>
   rw [hp] at v
   obtain ⟨H1,v1,p1⟩:=v
   obtain ⟨g1,E1⟩:=h.pre p1
   refine kG ⟨H1,a9 (m:=jU) (q:=⟨l1,H1⟩) rfl ?_,_,r,es,g1,o,E1⟩
   rw [e0]
   refine ak t1 (cX (wW (bx (bq (g_get b1) (bq (aS h.r.rm ∅ _) (bq (bq (g_get b4) (bq rfl rfl)) (ky v1))))) ?_))
   rw [if_neg ∅,if_pos rfl]
   exact bq (bq (g_get b5) (bq rfl (bq (g_cgt k1) rfl))) rfl
  | some gF =>
   cases A0 h o hw nb hf hp with
   | mk H' col' r' es' bs k t g hh ev=>exact kG ⟨H',t,col',r',es',g,hh,ev⟩
end
theorem Go {H:Hp} {l:bk} {d:Nat} {es:List (Int×V)} {k:Int} {v:V} (h:H[d]? = some (.dict es)) (hl:es.length<=1000000) (hv:es.lookup k=some v):ly (.ref d) (.int k) ⟨l,H⟩= .ok v ⟨l,H.set d (.dict (r9 k es))⟩:=by
 unfold ly;dsimp only;rw [h];dsimp only;rw [if_pos hl,hv]
theorem DE {H:Hp} {l:bk} {d:Nat} {es:List (Int×V)} (h:H[d]? = some (.dict es)):fQ (.ref d) ⟨l,H⟩= .ok false ⟨l,H⟩:=by rw [xr,h]
noncomputable def nA (es:List Hd) (a:Int):List Hd:=es.filter λe=>e.pl≠a
theorem pf (a:Int):∀es:List Hd,(nA es a).map Hd.ent=r9 a (es.map Hd.ent)
 | []=>rfl
 | e::es=>by
  unfold nA r9
  rw [aas,List.filter_cons,List.filter_cons]
  by_cases h:e.pl=a
  ·rw [if_neg (by simp [h]),if_neg (by simp [Hd.ent,h])];exact pf a es
  ·rw [if_pos (by simp [h]),if_pos (by simp [Hd.ent,h]),aas];exact congrArg _ (pf a es)
theorem qp:∀ {es:List Hd},(es.map Hd.pl).Nodup-> ∀ {e:Hd},e∈es->es.Perm (e::nA es e.pl)
 | a::es,hn,e,he=>by
  obtain ⟨h1,h2⟩:=aaP.mp hn
  unfold nA
  rw [List.filter_cons]
  rcases aah.mp he with k | k
  ·subst k
   rw [if_neg (by simp),List.filter_eq_self.mpr λx hx=>by
    haveI:x.pl≠e.pl:=λq=>h1 (q▸aav hx)
    simp [this]]
  ·haveI:a.pl≠e.pl:=λq=>h1 (q▸aav k)
   rw [if_pos (by simp [this])]
   exact ((qp h2 k).cons a).trans (.swap _ _ _)
section
variable {c:Nat} {col:Nat->Nat} {H:Hp} {p len:Int} {xs:List Int} {ri d za:Nat} {r:Rm} {es:List Hd} {l:bk}
theorem HG.rekey (h:HG c col H p len xs ri d za r es) {es':List Hd} (hm:∀e∈es',∃e0∈es,e0.ad=e.ad/\e0.vs=e.vs) (nd:(es'.map Hd.ad).Nodup) :
  HG c (iP col H.length (c+2) []) (H.set d (.dict (es'.map Hd.ent))) p len xs ri d za r es'/\rU c col H (iP col H.length (c+2) []) (H.set d (.dict (es'.map Hd.ent))):=by
 have ch:cM [d] H (H.set d (.dict (es'.map Hd.ent))):=cM.set (.head _)
 refine h.mine (O:=[]) ch (λi hi _=>by rw [aag.mp hi];exact .inl h.cd) (aaB (bj h.d)) (λe he=> ?_) (λe he=> ?_) nd
 ·obtain ⟨e0,h0,q1,_⟩:=hm e he
  rw [<- q1];exact (cS (bj (h.l e0 h0))).trans (h.ca e0 h0)
 ·obtain ⟨e0,h0,q1,q2⟩:=hm e he
  rw [<- q1,<- q2]
  exact ch.get (h.l e0 h0) λq=>by haveI:=h.ca e0 h0;rw [aag.mp q] at this;exact absurd (this.symm.trans h.cd) (Nat.succ_ne_self _)
noncomputable def DO (m:Int×Int) (es:List Hd) (e:Hd):List Hd:=nA es m.1++[{ e with pl:=m.2 }]
structure Jb (z:Int) (es:List Hd) (ms:List (Int×Int)):Prop where
 nd:(es.map Hd.pl++ms.map (·.2)).Nodup
 s:(ms.map (·.1)).Nodup
 i:∀m∈ms,∃e∈es,e.pl=m.1/\(e.vs.length:Int)=z
structure JN (n d:Nat) (z:Int) (l:bk):Prop where
 m:l "_law_moves" = some (.ref n)
 h:l "_law_held_here" = some (.ref d)
 z:l "_law_size" = some (.int z)
theorem yS {n:Nat} {cs:List V} {z:Int} (hz:z<1000000):∀(ms:List (Int×Int)) {col:Nat->Nat} {H:Hp} {es:List Hd} {l:bk},HG c col H p len xs ri d za r es->Jb z es ms->es.length<1000000->H[n]? = some (.list cs)->n≠d->JN n d z l ->
  ∃(l':bk) (H':Hp) (col':Nat->Nat) (es':List Hd),A4 (dD (λH=>ax (.ref n) H=some cs) (aY "_law_move") (jw) (ms.map aO) ⟨l,H⟩= .ok .next ⟨l',H'⟩) (HG c col' H' p len xs ri d za r es') (rU c col H col' H') (es'.Perm (es.map λe=>{ e with pl:=u0 ms e.pl }))
 | [],col,H,es,l,h,_,_,_,_,_=>⟨l,H,col,es,rfl,h,rU.refl _ _ _,by
   rw [show (λe:Hd=>({ e with pl:=u0 [] e.pl }:Hd))=id from rfl,List.map_id]⟩
 | m::ms,col,H,es,l,h,I,hf,hn,hnd,hl=>by
  refine nK λG kG=> ?_
  obtain ⟨e,he,q1,q2⟩:=I.i m (.head _)
  obtain ⟨n1,n2,n3⟩:=List.nodup_append.mp I.nd
  have no2:m.2∉es.map Hd.pl:=λq=>n3 _ q _ (.head _) rfl
  obtain ⟨s1,s2⟩:=aaP.mp I.s
  obtain ⟨m1,m2⟩:=aaP.mp n2
  refine bH (upd l "_law_move" (.tup [.int m.1,.int m.2])) λl1 e1=> ?_
  have b0:=az e1
  haveI b1:=ah e1 ∅ hl.m
  have b2:=ah e1 ∅ hl.h
  have b3:=ah e1 ∅ hl.z
  have d0:∀q,aW (.tup [.int m.1,.int m.2]) (.int 0) q= .ok (.int m.1) q:=λq=>rfl
  have d1:∀q,aW (.tup [.int m.1,.int m.2]) (.int 1) q= .ok (.int m.2) q:=λq=>rfl
  have lk:=wU n1 he
  rw [q1] at lk
  haveI i1:rk (.int m.1) (.ref d) ⟨l1,H⟩= .ok true ⟨l1,H⟩:=by rw [Hh m.1 h.d,lk];rfl
  haveI i2:rk (.int m.2) (.ref d) ⟨l1,H⟩= .ok false ⟨l1,H⟩:=by rw [Hh m.2 h.d,wV no2];rfl
  haveI it:aW (.ref d) (.int m.1) ⟨l1,H⟩= .ok (.ref e.ad) ⟨l1,H⟩:=Dz h.d lk
  haveI ln:dw [.ref e.ad] ⟨l1,H⟩= .ok (.int z) ⟨l1,H⟩:=by
   haveI:=cj (l:=l1) (h.l e he) (by rw [aak];exact id (dE 0xf4240a0100fa10f4240a0912 hz q2))
   rw [aak,q2] at this;exact this
  haveI ez:∀q,tB (.int z) (.int z) q= .ok true q:=λq=>yB (decide_eq_true rfl)
  haveI kd:=DE (l:=l1) h.d
  haveI pp:=Go (l:=l1) h.d (by rw [aak];exact id (bO 0xf4240a000f4240a0111 hf)) lk
  rw [<- pf] at pp
  have sub:∀ {x:Hd},x∈nA es m.1->x∈es/\x.pl≠m.1:=λhx=>⟨(aaD.mp hx).1,by simpa using (aaD.mp hx).2⟩
  have sl:(nA es m.1).Sublist es:=List.filter_sublist
  obtain ⟨g1,E1⟩:=h.rekey (es':=nA es m.1) (λx hx=>⟨x,(sub hx).1,rfl,rfl⟩) ((sl.map Hd.ad).nodup h.nd)
  refine bH (H.set d (.dict ((nA es m.1).map Hd.ent))) λH1 eH1=> ?_
  rw [eH1] at g1 E1 pp
  have no3:m.2∉(nA es m.1).map Hd.pl:=λq=>no2 ((sl.map Hd.pl).subset q)
  haveI hl1:=sl.length_le
  haveI ss:=GB (l:=l1) m.2 (.ref e.ad) g1.d (by rw [aak];exact id (bP 0xf4240a1101010f4240a0112 hf hl1))
  haveI dn:=AY (e:=({ e with pl:=m.2 }:Hd)) no3
  dsimp only at dn
  rw [dn] at ss
  have pm:=qp n1 he
  rw [q1] at pm
  obtain ⟨g2,E2⟩:=h.rekey (es':=DO m es e) (λx hx=>by
    rcases aan.mp hx with hx | hx
    ·exact ⟨x,(sub hx).1,rfl,rfl⟩
    ·rw [aag.mp hx];exact ⟨e,he,rfl,rfl⟩) (by
    refine (((pm.map Hd.ad).trans ?_).nodup_iff).mp h.nd
    unfold DO;rw [aa7];exact (List.perm_append_comm (l₁:=[e.ad])))
  haveI eH2:H1.set d (.dict ((DO m es e).map Hd.ent))=H.set d (.dict ((DO m es e).map Hd.ent)):=by rw [<- eH1,List.set_set]
  refine bH (H.set d (.dict ((DO m es e).map Hd.ent))) λH2 eH=> ?_
  haveI ss:bL (.ref d) (.int m.2) (.ref e.ad) ⟨l1,H1⟩= .ok () ⟨l1,H2⟩:=by rw [<- eH,<- eH2];exact ss
  rw [eH] at g2 E2
  have hn2:H2[n]? = some (.list cs):=by rw [<- eH,aaC (Ne.symm hnd)];exact hn
  haveI tb:jw ⟨l1,H⟩= .ok .next ⟨l1,H2⟩:=by
   refine ak (q':=⟨l1,H⟩) ?_ ?_
   ·exists b0,d0,d1,b2,b3,i1,i2,it,ln,ez
   ·exists b0,d0,d1,b2,kd,pp,ss
  haveI plE:∀ {x:Hd},x∈DO m es e->(x∈es/\x.pl≠m.1)\/x={ e with pl:=m.2 }:=λhx=>by
   rcases aan.mp hx with hx | hx
   ·exact .inl (sub hx)
   ·exact .inr (aag.mp hx)
  haveI I2:Jb z (DO m es e) ms:=by
   refine ⟨List.nodup_append.mpr ⟨?_,m2,λa ha b hb q=> ?_⟩,s2,λm' hm'=> ?_⟩
   ·unfold DO;rw [aa7]
    exact List.nodup_append.mpr ⟨(sl.map Hd.pl).nodup n1,aaP.mpr ⟨λh=>(nomatch h),.nil⟩,λa ha b hb q=>no3 (by rw [q,aag.mp hb] at ha;exact ha)⟩
   ·obtain ⟨x,hx,rfl⟩:=aae.mp ha
    rcases plE hx with ⟨hx,_⟩ | rfl
    ·exact n3 _ (aav hx) _ (.tail _ hb) q
    ·exact m1 (by rw [<- q] at hb;exact hb)
   ·obtain ⟨x,hx,y1,y2⟩:=I.i m' (.tail _ hm')
    refine ⟨x,aaE _ (aaD.mpr ⟨hx,?_⟩),y1,y2⟩
    haveI:x.pl≠m.1:=λq=>s1 (by show m.1∈_;rw [<- q,y1];exact aav (f:=(·.1)) hm')
    simpa using this
  haveI hl2:(DO m es e).length<1000000:=by
   haveI:=pm.length_eq
   unfold DO
   rw [aac,aaW]
   rw [aau] at this
   exact id (bP 0xf4240a191c1191c0310f4240a0112 hf this)
  obtain ⟨l3,H3,col3,es3,t3,g3,E3,p3⟩:=yS hz ms g2 I2 hl2 hn2 hnd ⟨b1,b2,b3⟩
  refine kG ⟨l3,H3,col3,es3,(cN (bq (g_set e1) tb) (sS hn2)).trans t3,g3,E2.trans E3,p3.trans ?_⟩
  refine List.Perm.trans ?_ (pm.map _).symm
  haveI f1:(nA es m.1).map (λe:Hd=>({ e with pl:=u0 ms e.pl }:Hd))=(nA es m.1).map (λe:Hd=>({ e with pl:=u0 (m::ms) e.pl }:Hd)):=abf λx hx=>by
   haveI:u0 (m::ms) x.pl=u0 ms x.pl:=if_neg (Ne.symm (sub hx).2)
   rw [this]
  haveI f2:u0 ms m.2=m.2:=zP λq=>by
   obtain ⟨m',hm',y⟩:=aae.mp q
   obtain ⟨x,hx,y1,_⟩:=I.i m' (.tail _ hm')
   exact no2 (by rw [<- y,<- y1];exact aav hx)
  haveI f3:u0 (m::ms) e.pl=m.2:=if_pos q1.symm
  unfold DO
  rw [aa7,f1]
  show (_++[({ e with pl:=u0 ms m.2 }:Hd)]).Perm (({ e with pl:=u0 (m::ms) e.pl }:Hd)::_)
  rw [f2,f3]
  exact List.perm_append_comm (l₂:=[_])
theorem EF (h:HG c col H p len xs ri d za r es) (o:eg p len r es) {z:Int} (hz:z∈xs):∃H',my [.inst "Room" ri,.int z,.ref d] H= .ok (.bool true) H'/\AM c col H p len xs ri d za H':=by
 refine nK λG kG=> ?_
 refine bH (aX ["_law_room", "_law_size", "_law_held_here"] [.inst "Room" ri,.int z,.ref d]) λl0 e0=> ?_
 haveI a1:l0 "_law_room" = some (.inst "Room" ri):=e0▸rfl
 have a2:l0 "_law_size" = some (.int z):=e0▸rfl
 haveI a3:l0 "_law_held_here" = some (.ref d):=e0▸rfl
 haveI v:=ED h.r.rm h.r.ok (z:=z) (by rw [h.r.rx];exact hz)
 rw [h.r.rl,h.r.rp] at v
 obtain ⟨n,r',H1,w1,w2,w3,w4,w5,w6,w7,w8,w9,w10,w11⟩:=v
 obtain ⟨g1,E1⟩:=h.room w4 w5 w6 w8 λi hi=> .inl (w9 i hi)
 refine bH (upd l0 "_law_moves" (.ref n)) λl1 el1=> ?_
 have b1:=az el1
 have gz:=h.r.gz hz
 have hz1:=h.r.sz.low z hz
 haveI hz2:=h.r.sz.top z hz
 haveI hL:=h.r.ok.len
 rw [h.r.rl] at hL
 haveI hcs:=h.r.ok.cs
 rw [h.r.rp,h.r.rl] at hcs
 haveI fs:=g1.r.fst
 haveI bb:=λe he=>g1.r.in9 (e:=e) he
 haveI gp:=g1.r.gap
 have hw:=h.r.gap
 have hb:=λe he=>h.r.in9 (e:=e) he
 have pm:=o.pm
 rw [w7] at fs bb gp
 refine bH (look r.ss) λF eF=> ?_
 rw [eF] at w3 w7 w11 gz fs bb gp hw hb pm
 refine bH (gN p len F z) λM eM=> ?_
 obtain ⟨q1,q2,q3,q4,q5⟩:=gz.perm pm hw λe he=>(hb e he).2.1
 haveI asc:=gz.mv.asc
 haveI apt:=λm hm m' hm'=>gz.apart (m:=m) (m':=m') hm hm' (y:=0) (y':=0) (z0 hz1) (z0 hz1)
 haveI cel:=λe he j hj=>gz.cells pm (cs:=r.cs) hcs hb bb hw gp (e:=e) he (t:=j) hj
 rw [eM] at q1 q2 q3 q4 q5 w3 w11 asc apt cel
 have fs4:=(q4.map (·.1)).nodup_iff.mp fs
 rw [aa7] at fs4
 haveI I:Jb z es M:=by
  refine ⟨List.nodup_append.mpr ⟨h.keys o,?_,λa ha b hb q=> ?_⟩,aaY.mpr (q3.imp λ{a b} q e=>by rw [e] at q;exact Int.lt_irrefl _ q),λm hm=> ?_⟩
  ·haveI:=(List.nodup_append.mp fs4).1
   rw [aaQ] at this;exact this
  ·obtain ⟨e,he,rfl⟩:=aae.mp ha
   obtain ⟨m,hm,rfl⟩:=aae.mp hb
   rcases q5 _ (aav he) with ⟨k,_⟩ | ⟨m',hm',k,_⟩
   ·exact (List.nodup_append.mp fs4).2.2 m.2 (by rw [aaQ];exact aav hm) e.pl (aav (f:=(·.1)) k) q.symm
   ·haveI k1:e.pl=m'.1:=(Prod.mk.inj k).1
    exact apt m' hm' m hm (by rw [<- k1,q])
  ·obtain ⟨e,he,q⟩:=aae.mp (q2 m hm)
   exact ⟨e,he,(Prod.mk.inj q).1,(Prod.mk.inj q).2⟩
 haveI hfw:=h.few o
 haveI hnd:n≠d:=λe=>absurd (bj h.d) (Nat.not_lt.mpr (e▸w2))
 obtain ⟨l3,H3,col3,es3,t3,g3,E3,p3⟩:=yS (by exact qw 0xf4240a0900003ca18110812 hz2 hL.2) M g1 I (by exact bO 0xf4240a01009c40a0011 hfw) w3 hnd ⟨b1,ah el1 ∅ a3,ah el1 ∅ a2⟩
 haveI O:eg p len r' es3:=by
  refine ⟨?_,λe he j v hv=> ?_⟩
  ·rw [w7]
   refine ((p3.map Hd.thg).trans ?_).trans q1
   rw [aaQ,aaQ];exact .refl _
  ·obtain ⟨e',he',rfl⟩:=aae.mp (p3.mem_iff.mp he)
   dsimp only at hv ⊢
   haveI hl:=(aab.mp hv).1
   haveI:=cel e'.thg (aav he') j (by unfold Hd.thg;dsimp only;exact id (⟨bO 0xf0980,bP 0x1f0f910111 hl⟩))
   rw [w11]
   exact this.trans (o.ce e' he' j v hv)
 refine kG ⟨H3,a9 (m:=rF) (q:=⟨l3,H3⟩) rfl ?_,col3,r',es3,g3,O,E1.trans E3⟩
 rw [e0]
 refine ak (q':=⟨l1,H1⟩) ?_ (ak (q':=⟨l1,H1⟩) ?_ (ak (q':=⟨l3,H3⟩) (bq (bq (g_get b1) (Ag w3)) t3) rfl))
 ·exists a1,aS h.r.rm (f := "gather") ∅,a2,w1,el1
 ·exists b1,FY w3
end
theorem Fy {i j:Int} (q:S) (h1:i.natAbs<10 ^ 60) (h2:j.natAbs<10 ^ 60):gB (.int i) (.int j) q= .ok (.int (i*j)) q:=by
 have b:∀ {x:Int},x.natAbs<10 ^ 60->PySem.Builtin.Int.intBits x<=2 ^ 20:=λh=>aam (intBits_le_iff.mpr (Nat.lt_trans h ∅:_<2 ^ 200)) ∅
 unfold gB
 dsimp only
 rw [if_pos (IntMulOk.of_bits (b h1) (b h2))];rfl
section
variable {c:Nat} {col:Nat->Nat} {H:Hp} {p len:Int} {xs:List Int} {ri d za:Nat} {r:Rm} {es:List Hd} {l:bk}
theorem HG.small (h:HG c col H p len xs ri d za r es) (o:eg p len r es) {e:Hd} (he:e∈es):e.vs.length<=60:=by
 haveI h1:=h.r.sz.top _ (h.r.szin (o.pm.mem_iff.mp (aav (f:=Hd.thg) he)))
 haveI hL:=h.r.ok.len
 rw [h.r.rl] at hL
 dsimp only [Hd.thg] at h1
 exact id (dE 0x3ca0000003ca08100f812 h1 hL.2)
theorem HG.sorted (h:HG c col H p len xs ri d za r es) (hf:es.length<1000000) (l:bk):bR [.ref d] ⟨l,H⟩= .ok (.ref H.length) ⟨l,H++[.list ((cH (es.map Hd.pl)).map V.int)]⟩:=by
 unfold bR;dsimp only;rw [h.d];dsimp only
 rw [if_pos (by rw [aak];exact hf),E8]
theorem CB (h:HG c col H p len xs ri d za r es) (o:eg p len r es) {e:Hd} (he:e∈es) {st x:Int} (hs:¬(0<=st/\st<(e.vs.length:Nat))):fV [.inst "Room" ri,.int e.pl,.int st,.int x] H= .ok (.bool true) H:=by
 obtain ⟨g,z,s,j,hf,y1,hj,_,p1,p2⟩:=h.at8 o he
 haveI w:=F9 h.r.rm (x:=x) (BU h.r.rm h.r.ok hf y1 hj (j:=st) (by rw [<- p2];exact hs))
 rw [<- p1] at w
 exact a9 (m:=jV) (q:=⟨aX ["_law_room", "_law_place", "_law_step", "_law_number"] [.inst "Room" ri,.int e.pl,.int st,.int x],H⟩) rfl (cX (wW (bx (bq (g_get rfl) (bq (aS h.r.rm ∅ _) (bq rfl (ky w))))) rfl))
structure E0 (ri d n:Nat) (cell more:Int) (pl:Int) (k:Nat) (l:bk):Prop where
 r:l "_law_room" = some (.inst "Room" ri)
 h:l "_law_held_here" = some (.ref d)
 c:l "_law_cell" = some (.int cell)
 m:l "_law_more" = some (.int more)
 p:l "_law_place" = some (.int pl)
 s:l "_law_step" = some (.int k)
theorem E0.to {ri d n:Nat} {cell more pl:Int} {k:Nat} {l l':bk} (h:E0 ri d n cell more pl k l) (e:∀y,y ≠ "_law_number" -> l' y=l y):E0 ri d n cell more pl k l' :=
 ⟨(e _ ∅).trans h.r,(e _ ∅).trans h.h,(e _ ∅).trans h.c,(e _ ∅).trans h.m,(e _ ∅).trans h.p,(e _ ∅).trans h.s⟩
theorem jW (a:Int) (q:S):bw (.int a) (.int 10) q= .ok (.int (a.fmod 10)) q:=c9 ∅ rfl
theorem I0 (a:Int) (q:S):bw (.int a) (.int 4) q= .ok (.int (a.fmod 4)) q:=c9 ∅ rfl
theorem Jx (a:Int) (q:S):dq (.int a) (.int 4) q= .ok (.int (a.fdiv 4)) q:=iD ∅ rfl
theorem IO (h:HG c col H p len xs ri d za r es) (o:eg p len r es) {e:Hd} (he:e∈es) {n k:Nat} {cell more:Int} (hl:E0 ri d n cell more e.pl k l) (hc:cell.fmod 10=3):∃q',eZ ⟨l,H⟩= .ok (.ret (.bool true)) q'/\AM c col H p len xs ri d za q'.H:=by
 refine nK λG kG=> ?_
 haveI k1:decide (cell.fmod 10=3)=true:=decide_eq_true hc
 haveI hfw:=h.few o
 haveI pp:=Go (l:=l) h.d (by rw [aak];exact id (bO 0xf4240a00009c40a0011 hfw)) (wU (h.keys o) he)
 rw [<- pf] at pp
 have sl:(nA es e.pl).Sublist es:=List.filter_sublist
 obtain ⟨g1,E1⟩:=h.rekey (es':=nA es e.pl) (λx hx=>⟨x,sl.subset hx,rfl,rfl⟩) ((sl.map Hd.ad).nodup h.nd)
 refine bH (H.set d (.dict ((nA es e.pl).map Hd.ent))) λH1 eH1=> ?_
 rw [eH1] at g1 E1 pp
 obtain ⟨g,z,s,j,hf,y1,hj,hF,p1,p2⟩:=h.at8 o he
 haveI w:=zu g1.r.rm g1.r.ok hf y1 hj
 rw [<- p1,h.r.rp] at w
 obtain ⟨r',H2,w1,w2,w3,w4,w5,w6,w7,w8⟩:=w
 obtain ⟨g2,E2⟩:=g1.room w2 w3 w4 w6 λi hi=> .inl (w7 i hi)
 haveI O:eg p len r' (nA es e.pl):=by
  refine ⟨?_,λy hy i v hv=>by rw [w8];exact o.ce y (sl.subset hy) i v hv⟩
  rw [w5]
  haveI t:=Ew (len:=len) (h.r.inr g _ hF) hF hj
  haveI et:e.thg=(g*len+j*z,z):=by rw [h.r.rl] at p1;exact Prod.ext p1 p2
  rw [<- et] at t
  exact ((((qp (h.keys o) he).map Hd.thg).symm.trans o.pm).trans t).cons_inv
 refine kG ⟨⟨l,H2⟩,bq (a:=true) (q':=⟨l,H⟩) ?_ (it_t rfl (ak (q':=⟨l,H1⟩) ?_ ?_)),_,r',_,g2,O,E1.trans E2⟩
 ·exists hl.c,jW,k1
 ·exists hl.h,DE h.d,hl.p,pp
 ·exists hl.r,aS g1.r.rm (f := "give_back") ∅,hl.p,w1
theorem IP (h:HG c col H p len xs ri d za r es) (o:eg p len r es) {e:Hd} (he:e∈es) {n k:Nat} {cell more:Int} (hl:E0 ri d n cell more e.pl k l) (hc:cell.fmod 10=6) (hm:more.fmod 4=0):∃q',fb ⟨l,H⟩= .ok (.ret (.bool true)) q'/\AM c col H p len xs ri d za q'.H:=by
 refine nK λG kG=> ?_
 haveI k1:decide (cell.fmod 10=6)=true:=decide_eq_true hc
 haveI k2:decide (more.fmod 4=0)=true:=decide_eq_true hm
 haveI b:=h.small o he
 haveI r1:=bB more 99 ∅
 haveI r2:=bB more 60 ∅
 haveI m1:∀q,bw (.int more) (.int 99) q= .ok (.int (more.fmod 99)) q:=λq=>c9 ∅ rfl
 haveI m2:∀q,bw (.int more) (.int 60) q= .ok (.int (more.fmod 60)) q:=λq=>c9 ∅ rfl
 obtain ⟨vs,evs⟩:∃vs:List V,[.int (-1),.int (e.vs.length:Nat),.int (60+more.fmod 99),.int (-2-more.fmod 60)]=vs:=⟨_,rfl⟩
 haveI nl:fN [.int (-1),.int (e.vs.length:Nat),.int (60+more.fmod 99),.int (-2-more.fmod 60)] ⟨l,H⟩= .ok (.ref H.length) ⟨l,H++[.list vs]⟩:=by rw [kQ,evs];exact if_pos (by rw [<- evs];show 4<=1000000;decide)
 have ri4:=bB (more.fdiv 4) 4 ∅
 obtain ⟨st,hst,hno⟩:∃st,vs[((more.fdiv 4).fmod 4).toNat]? = some (.int st)/\ ¬(0<=st/\st<(e.vs.length:Nat)):=by
  haveI:((more.fdiv 4).fmod 4).toNat<4:=by exact dE 0x490100fa1490912 ri4.2 (aai ri4.1)
  rw [<- evs]
  match ((more.fdiv 4).fmod 4).toNat,this with
  | 0,_=>exact ⟨_,rfl,λq=>absurd q.1 ∅⟩
  | 1,_=>exact ⟨_,rfl,λq=>Int.lt_irrefl _ q.2⟩
  | 2,_=>exact ⟨_,rfl,λq=>Int.not_lt.mpr (aa9 (Int.ofNat_le.mpr b) (Int.le_add_of_nonneg_right r1.1)) q.2⟩
  | 3,_=>exact ⟨_,rfl,λq=>Int.not_le.mpr (Int.lt_of_le_of_lt (Int.sub_le_self _ r2.1) ∅) q.1⟩
 obtain ⟨g1,E1⟩:=h.pre (⟨_,rfl⟩:H<+:H++[.list vs])
 haveI it:=nn (l:=l) (ba H (.list vs)) ri4.1 (by exact cI 0xf4240a09490911 ri4.2) hst
 haveI rf:=CB g1 o he (x:=cell) hno
 refine kG ⟨⟨l,H++[.list vs]⟩,?_,_,r,es,g1,o,E1⟩
 exists hl.c,jW,k1,hl.m,I0,k2,hl.r,hl.p,hl.h,h.item o he,h.ln o he,m1,m2,nl,Jx,it,rf
theorem IQ (h:HG c col H p len xs ri d za r es) (o:eg p len r es) {e:Hd} (he:e∈es) {n k:Nat} (hk:k<e.vs.length) {cell more:Int} (hb:cell.natAbs<10 ^ 60) (hl:E0 ri d n cell more e.pl k l) (hc:cell.fmod 10<7):∃q',fc ⟨l,H⟩= .ok (.ret (.bool true)) q'/\AM c col H p len xs ri d za q'.H:=by
 refine nK λG kG=> ?_
 haveI k1:decide (cell.fmod 10<7)=true:=decide_eq_true hc
 have pw:∀(j:Int) q,0<=j/\j<=100->oR (.int 10) (.int j) q= .ok (.int (10 ^ j.toNat)) q:=λj q h=>Gk ⟨h.1,by exact cI 0xf4240a08000064a0811 h.2,by decide⟩ rfl
 haveI p12:=λq=>pw 12 q ∅
 have p40:=λq=>pw 40 q ∅
 haveI p41:=λq=>pw 41 q ∅
 haveI m1:∀q,bw (.int cell) (.int (10 ^ (12:Int).toNat+1000001)) q= .ok (.int (cell.fmod (10 ^ (12:Int).toNat+1000001))) q:=λq=>c9 ∅ rfl
 have m9:∀q,bw (.int more) (.int 9) q= .ok (.int (more.fmod 9)) q:=λq=>c9 ∅ rfl
 haveI mb:=λq=>Fy (j:=10 ^ (40:Int).toNat+7) q hb ∅
 refine bH (cell*(10 ^ (40:Int).toNat+7)) λu eu=> ?_
 rw [eu] at mb
 haveI m41:∀q,bw (.int u) (.int (10 ^ (41:Int).toNat)) q= .ok (.int (u.fmod (10 ^ (41:Int).toNat))) q:=λq=>c9 ∅ rfl
 refine bH (upd l "_law_number" (.int (cell.fmod (10 ^ (12:Int).toNat+1000001)-1000000))) λl1 e1=> ?_
 have L1:E0 ri d n cell more e.pl k l1:=hl.to λy hy=>by rw [<- e1,gX _ _ hy]
 obtain ⟨l2,x,t2,L2,b2⟩:∃(l2:bk) (x:Int),((be .Eq (av bw (af "_law_more") (al 9)) (al 7)).b (aC ((av xG (av bw (av gB (af "_law_cell") (av cY (av oR (al 10) (al 40)) (al 7))) (av oR (al 10) (al 41))) (av oR (al 10) (al 40))).b (aH "_law_number")) cn)) ⟨l1,H⟩= .ok .next ⟨l2,H⟩/\E0 ri d n cell more e.pl k l2/\l2 "_law_number" = some (.int x):=by
  by_cases h9:more.fmod 9=7
  ·haveI k9:decide (more.fmod 9=7)=true:=decide_eq_true h9
   refine bH (upd l1 "_law_number" (.int (u.fmod (10 ^ (41:Int).toNat)-10 ^ (40:Int).toNat))) λl2 e2=> ?_
   refine ⟨l2,_,?_,L1.to λy hy=>by rw [<- e2,gX _ _ hy],az e2⟩
   exists L1.m,m9,k9,L1.c,p40,mb,p41,m41,e2
  ·haveI k9:decide (more.fmod 9=7)=false:=decide_eq_false h9
   refine ⟨l1,_,?_,L1,az e1⟩
   exists L1.m,m9,k9
 cases h.put o he hk x with
 | mk H4 H5 col5 r5 es5 s4 m4 w5 g5 o5 E5 lk5 ks5 =>
 refine kG ⟨⟨l2,H5⟩,bq (a:=true) (q':=⟨l,H⟩) ?_ (it_t rfl (ak (q':=⟨l1,H⟩) ?_ (ak t2 (ak (q':=⟨l2,H4⟩) ?_ ?_)))),col5,r5,es5,g5,o5,E5⟩
 ·exists hl.c,jW,k1
 ·exists hl.c,p12,m1,e1
 ·exists b2,L2.h,L2.p,h.item o he,L2.s,s4
 ·exists L2.r,m4,L2.p,L2.s,b2,w5
theorem AE (h:HG c col H p len xs ri d za r es) (o:eg p len r es) (hne:es≠[]) {cell:Int} (hb:cell.natAbs<10 ^ 60):∃H',jA [.inst "Room" ri,.ref d,.int cell] H= .ok (.bool true) H'/\AM c col H p len xs ri d za H':=by
 refine nK λG kG=> ?_
 refine bH (aX ["_law_room", "_law_held_here", "_law_cell"] [.inst "Room" ri,.ref d,.int cell]) λl0 e0=> ?_
 haveI a1:l0 "_law_room" = some (.inst "Room" ri):=e0▸rfl
 have a2:l0 "_law_held_here" = some (.ref d):=e0▸rfl
 have a3:l0 "_law_cell" = some (.int cell):=e0▸rfl
 obtain ⟨more,em⟩:∃m,cell.fdiv 10=m:=⟨_,rfl⟩
 refine bH (upd l0 "_law_more" (.int more)) λl1 e1=> ?_
 haveI t1:lQ ⟨l0,H⟩= .ok .next ⟨l1,H⟩:=by
  haveI v:∀q,dq (.int cell) (.int 10) q= .ok (.int more) q:=λq=>iD ∅ em
  exists a3,v,e1
 have hfw:=h.few o
 haveI st:=h.sorted (by exact bO 0xf4240a01009c40a0011 hfw) l1
 refine bH (cH (es.map Hd.pl)) λks eks=> ?_
 rw [eks] at st
 refine bH (H++[O.list (ks.map V.int)]) λH1 eH1=> ?_
 rw [eH1] at st
 have hn1:H1[H.length]? = some (.list (ks.map V.int)):=by rw [<- eH1];exact ba _ _
 obtain ⟨g1,E1⟩:=h.pre (⟨_,eH1⟩:H<+:H1)
 refine bH (upd l1 "_law_places" (.ref H.length)) λl2 e2=> ?_
 haveI t2:lR ⟨l1,H⟩= .ok .next ⟨l2,H1⟩:=by exists ah e1 ∅ a2,st,e2
 have kl:ks.length=es.length:=by rw [<- eks,kZ,aak]
 haveI k0:0<ks.length:=by rw [kl];exact List.length_pos_iff.mpr hne
 have hi:=bB more ks.length (by exact bO 0xf099009111 k0)
 refine bH (more.fmod ks.length) λi ei=> ?_
 rw [ei] at hi
 obtain ⟨a,ha⟩:∃a,ks[i.toNat]? = some a:=⟨_,aao (by exact kK 0x1101fa10f0912 hi.2 (aai hi.1))⟩
 obtain ⟨e,he,ea⟩:=aae.mp (qS.mp (eks▸aaI ha))
 subst ea
 refine bH (upd l2 "_law_place" (.int e.pl)) λl3 e3=> ?_
 haveI ln:dw [.ref H.length] ⟨l2,H1⟩= .ok (.int ks.length) ⟨l2,H1⟩:=by
  haveI:=cj (l:=l2) hn1 (by rw [aak];exact id (bP 0xf4240a110121009c40a0012 hfw kl))
  rw [aak] at this;exact this
 haveI it:aW (.ref H.length) (.int i) ⟨l2,H1⟩= .ok (.int e.pl) ⟨l2,H1⟩:=nn hn1 hi.1 (by exact kK 0xf4240a091f0910121009c40a0013 hfw kl hi.2) (by rw [List.getElem?_map,ha];rfl)
 have b2:=az e2
 have m2:=ah e2 ∅ (az e1)
 haveI t3:lS ⟨l2,H1⟩= .ok .next ⟨l3,H1⟩:=by exists b2,m2,ln,c9 (JD ha) ei,it,e3
 have bd:=h.b o he
 obtain ⟨k,ek⟩:∃k:Nat,(more.fdiv 4).fmod (e.vs.length:Nat)=k:=⟨_,(aai (bB (more.fdiv 4) (e.vs.length:Nat) (by exact bO 0xf099019011 bd.2.1)).1).symm⟩
 have hk:k<e.vs.length:=by haveI:=(bB (more.fdiv 4) (e.vs.length:Nat) (by exact bO 0xf099019011 bd.2.1)).2;exact id (kK 0x1011f0910f0b12 ek this)
 refine bH (upd l3 "_law_step" (.int k)) λl4 e4=> ?_
 have h3:=ah e3 ∅ (ah e2 ∅ (ah e1 ∅ a2))
 have m3:=ah e3 ∅ m2
 haveI mk:∀q,bw (.int (more.fdiv 4)) (.int (e.vs.length:Nat)) q= .ok (.int k) q:=λq=>c9 (by exact λx9=>bP 0x9096091fa110112 hk x9) ek
 haveI t4:lT ⟨l3,H1⟩= .ok .next ⟨l4,H1⟩:=by exists m3,Jx,h3,az e3,g1.item o he,g1.ln o he,mk,e4
 have T:E0 ri d H.length cell more e.pl k l4:=⟨ah e4 ∅ (ah e3 ∅ (ah e2 ∅ (ah e1 ∅ a1))),ah e4 ∅ h3,ah e4 ∅ (ah e3 ∅ (ah e2 ∅ (ah e1 ∅ a3))),ah e4 ∅ m3,ah e4 ∅ (az e3),az e4⟩
 have gZ:∀ {q':S},ay (eZ) (ay (fb) (ay (fc) (ay (lU) (lV)))) ⟨l4,H1⟩= .ok (.ret (.bool true)) q'->AM c (iP col H.length (c+2) []) H1 p len xs ri d za q'.H->G:=λ{q'} hm hE =>
  kG ⟨q'.H,a9 (m:=nV) (q:=q') rfl (by rw [e0];exact ak t1 (ak t2 (ak t3 (ak t4 hm)))),hE.trans E1⟩
 by_cases h5:cell.fmod 10=3
 ·obtain ⟨q',t,E⟩:=IO g1 o he T h5
  exact gZ (cX t) E
 haveI k5:decide (cell.fmod 10=3)=false:=decide_eq_false h5
 have t5:eZ ⟨l4,H1⟩= .ok .next ⟨l4,H1⟩:=by exists T.c,jW,k5
 by_cases h6:cell.fmod 10=6/\more.fmod 4=0
 ·obtain ⟨q',t,E⟩:=IP g1 o he T h6.1 h6.2
  exact gZ (ak t5 (cX t)) E
 have t6:fb ⟨l4,H1⟩= .ok .next ⟨l4,H1⟩:=by
  by_cases h6':cell.fmod 10=6
  ·haveI k6:decide (cell.fmod 10=6)=true:=decide_eq_true h6'
   haveI k7:decide (more.fmod 4=0)=false:=decide_eq_false λq=>h6 ⟨h6',q⟩
   exists T.c,jW,k6,T.m,I0,k7
  ·haveI k6:decide (cell.fmod 10=6)=false:=decide_eq_false h6'
   exists T.c,jW,k6
 by_cases h7:cell.fmod 10<7
 ·obtain ⟨q',t,E⟩:=IQ g1 o he hk hb T h7
  exact gZ (ak t5 (ak t6 (cX t))) E
 haveI k7:decide (cell.fmod 10<7)=false:=decide_eq_false h7
 haveI t7:fc ⟨l4,H1⟩= .ok .next ⟨l4,H1⟩:=by exists T.c,jW,k7
 obtain ⟨v,hv⟩:∃v,e.vs[k]? = some v:=⟨_,aao hk⟩
 haveI rd:=g1.get o he hv
 refine bH (upd l4 "_law_found" (.int v)) λl5 e5=> ?_
 haveI iv:aW (.ref e.ad) (.int k) ⟨l5,H1⟩= .ok (.int v) ⟨l5,H1⟩:=nn (g1.l e he) (by exact bO 0xf0980) (by exact kK 0xf4240a1f90111000960a0f0c81009813 bd.1 bd.2.2 hk) (by rw [List.getElem?_map,Int.toNat_natCast,hv];rfl)
 haveI ev:∀q,tB (.int v) (.int v) q= .ok true q:=λq=>yB (decide_eq_true rfl)
 refine gZ (q':=⟨l5,H1⟩) (ak t5 (ak t6 (ak t7 (ak (q':=⟨l5,H1⟩) ?_ ?_)))) ⟨_,r,es,g1,o,rU.refl _ _ _⟩
 ·exists T.r,aS g1.r.rm (f := "read") ∅,T.p,T.s,rd,e5
 ·exists az e5,d5,ah e5 ∅ T.h,ah e5 ∅ T.p,g1.item o he,ah e5 ∅ T.s,iv,ev
end
section
variable {c:Nat} {col:Nat->Nat} {H:Hp} {p len:Int} {xs:List Int} {ri d za:Nat} {r:Rm} {es:List Hd} {l:bk}
theorem vR (h:HG c col H p len xs ri d za r es) {w:Int} (hw:1<=w):∃H',fW [.inst "Room" ri,.tup [.int p,.int len,.ref za],.int w] H= .ok (.bool true) H'/\H<+:H':=by
 refine bH (aX ["_law_room", "_law_drawn", "_law_wish"] [.inst "Room" ri,.tup [.int p,.int len,.ref za],.int w]) λl0 e0=> ?_
 have a1:l0 "_law_room" = some (.inst "Room" ri):=e0▸rfl
 haveI a2:l0 "_law_drawn" = some (.tup [.int p,.int len,.ref za]):=e0▸rfl
 have a4:l0 "_law_wish" = some (.int w):=e0▸rfl
 have v:=AC h.r.rm h.r.ok hw
 rw [h.r.rx] at v
 cases hf:xs.find? (λx=>decide (x>=w)) with
 | none =>
  rw [hf] at v
  haveI sb:=qx h.z w
  rw [hf,Option.getD_none] at sb
  haveI d2:∀q,aW (.tup [.int p,.int len,.ref za]) (.int 2) q= .ok (.ref za) q:=λq=>rfl
  refine ⟨H,a9 (m:=fX) (q:=⟨l0,H⟩) rfl ?_,aaj _⟩
  rw [e0]
  refine wW (bx (bx (bx (bq (g_get a1) (bq (aS h.r.rm ∅ _) (bq (bq (g_get a4) (bq rfl rfl)) (ky v))))))) ?_
  rw [if_pos rfl]
  exists a2,d2,a4,sb
 | some z =>
  rw [hf] at v
  obtain ⟨H1,v1,p1⟩:=v
  refine ⟨H1,a9 (m:=fX) (q:=⟨l0,H1⟩) rfl ?_,p1⟩
  rw [e0]
  refine Gl ?_
  exists a1,aS h.r.rm (f := "room_for") ∅,a4,v1,d5
structure GG (ri d za:Nat) (p len cell more:Int) (l:bk):Prop where
 r:l "_law_room" = some (.inst "Room" ri)
 w:l "_law_drawn" = some (.tup [.int p,.int len,.ref za])
 h:l "_law_held_here" = some (.ref d)
 c:l "_law_cell" = some (.int cell)
 m:l "_law_more" = some (.int more)
theorem GG.upd {ri d za:Nat} {p len cell more:Int} {l l':bk} (h:GG ri d za p len cell more l) {x:String} {v:V} (e:Mine.Lake.upd l x v=l') (hx:x = "_law_turn" \/ x = "_law_many"):GG ri d za p len cell more l':=by
 rcases hx with rfl | rfl <;>
 exact ⟨ah e ∅ h.r,ah e ∅ h.w,ah e ∅ h.h,ah e ∅ h.c,ah e ∅ h.m⟩
theorem tv {cell more:Int}:∀(ys:List Int) {col:Nat->Nat} {H:Hp} {r:Rm} {es:List Hd} {l:bk},HG c col H p len xs ri d za r es->eg p len r es->GG ri d za p len cell more l ->
  ∃l' H',dD (λ_=>True) (aY "_law_turn") (j9) (ys.map V.int) ⟨l,H⟩= .ok .next ⟨l',H'⟩/\AM c col H p len xs ri d za H'
 | [],col,H,r,es,l,h,o,_=>⟨l,H,rfl,col,r,es,h,o,rU.refl _ _ _⟩
 | y::ys,col,H,r,es,l,h,o,hl=>by
  refine nK λG kG=> ?_
  have hL:=h.r.ok.len.1
  rw [h.r.rl] at hL
  haveI hw:=bB more len (by exact cI 0x99019811 hL)
  obtain ⟨H1,t1,E1⟩:=HM h o (w:=1+more.fmod len) (by exact cI 0x19c198009811 hw.1) (cell.fdiv 30+y)
  refine bH (upd l "_law_turn" (.int y)) λl1 e1=> ?_
  have T:=hl.upd e1 (.inl rfl)
  haveI md:∀q,bw (.int more) (.int len) q= .ok (.int (more.fmod len)) q:=λq=>c9 (by exact λx9=>cI 0x9096090a1019812 hL x9) rfl
  haveI dv:∀q,dq (.int cell) (.int 30) q= .ok (.int (cell.fdiv 30)) q:=λq=>iD ∅ rfl
  haveI d1:∀q,aW (.tup [.int p,.int len,.ref za]) (.int 1) q= .ok (.int len) q:=λq=>rfl
  haveI tb:j9 ⟨l1,H⟩= .ok .next ⟨l1,H1⟩:=by exists T.r,T.w,T.h,T.m,d1,md,T.c,dv,az e1,t1
  cases E1 with
  | mk col1 r1 es1 g1 o1 e1' =>
   obtain ⟨l2,H2,t2,E2⟩:=tv ys g1 o1 T
   exact kG ⟨l2,H2,(cN (bq (g_set e1) tb) trivial).trans t2,E2.trans e1'⟩
theorem E7 {cell more:Int} (h:HG c col H p len xs ri d za r es) (o:eg p len r es) (hl:GG ri d za p len cell more l) (hc:cell.fmod 10<3):∃q',il ⟨l,H⟩= .ok (.ret (.bool true)) q'/\AM c col H p len xs ri d za q'.H:=by
 refine nK λG kG=> ?_
 haveI k1:decide (cell.fmod 10<3)=true:=decide_eq_true hc
 refine bH (upd l "_law_many" (.int 1)) λl1 e1=> ?_
 have L1:=hl.upd e1 (.inr rfl)
 have rg:=bB (more.fdiv 2) 6 ∅
 obtain ⟨l2,x,t2,L2,b2,hx⟩:∃(l2:bk) (x:Int),((be .Eq (av bw (af "_law_cell") (al 10)) (al 2)).b (aC ((av cY (al 1) (av bw (av dq (af "_law_more") (al 2)) (al 6))).b (aH "_law_many")) cn)) ⟨l1,H⟩= .ok .next ⟨l2,H⟩/\GG ri d za p len cell more l2/\l2 "_law_many" = some (.int x)/\0<=x/\x<=1000:=by
  by_cases h2:cell.fmod 10=2
  ·haveI k2:decide (cell.fmod 10=2)=true:=decide_eq_true h2
   haveI m1:∀q,dq (.int more) (.int 2) q= .ok (.int (more.fdiv 2)) q:=λq=>iD ∅ rfl
   haveI m2:∀q,bw (.int (more.fdiv 2)) (.int 6) q= .ok (.int ((more.fdiv 2).fmod 6)) q:=λq=>c9 ∅ rfl
   refine bH (upd l1 "_law_many" (.int (1+(more.fdiv 2).fmod 6))) λl2 e2=> ?_
   refine ⟨l2,_,?_,L1.upd e2 (.inr rfl),az e2,by exact cI 0x19c098009811 rg.1,by exact cI 0x3e8a019c8690911 rg.2⟩
   exists L1.c,jW,k2,L1.m,m1,m2,e2
  ·haveI k2:decide (cell.fmod 10=2)=false:=decide_eq_false h2
   refine ⟨l1,1,?_,L1,az e1,by decide,by decide⟩
   exists L1.c,jW,k2
 obtain ⟨ys,eys,_⟩:=uk x
 obtain ⟨l3,H3,t3,E3⟩:=tv ys h o L2
 haveI rv:=iN x ⟨l2,H⟩ (I6 hx)
 rw [eys] at rv
 refine kG ⟨⟨l3,H3⟩,bq (a:=true) (q':=⟨l,H⟩) ?_ (it_t rfl (ak (q':=⟨l1,H⟩) ?_ (ak t2 (ak (q':=⟨l3,H3⟩) (bq (a:=⟨ys.map V.int,λ_=>True⟩) (q':=⟨l2,H⟩) ?_ t3) rfl)))),E3⟩
 ·exists hl.c,jW,k1
 ·exists e1
 ·exists b2,rv
theorem FU (h:HG c col H p len xs ri d za r es) (o:eg p len r es) {cell:Int} (hb:cell.natAbs<10 ^ 60):∃H',oE [.inst "Room" ri,.tup [.int p,.int len,.ref za],.ref d,.int cell] H= .ok (.bool true) H'/\AM c col H p len xs ri d za H':=by
 refine nK λG kG=> ?_
 refine bH (aX ["_law_room", "_law_drawn", "_law_held_here", "_law_cell"] [.inst "Room" ri,.tup [.int p,.int len,.ref za],.ref d,.int cell]) λl0 e0=> ?_
 obtain ⟨more,em⟩:∃m,cell.fdiv 10=m:=⟨_,rfl⟩
 refine bH (upd l0 "_law_more" (.int more)) λl e1=> ?_
 have hl:GG ri d za p len cell more l:=⟨ah e1 ∅ (e0▸rfl),ah e1 ∅ (e0▸rfl),ah e1 ∅ (e0▸rfl),ah e1 ∅ (e0▸rfl),az e1⟩
 haveI c0:l0 "_law_cell" = some (.int cell):=e0▸rfl
 haveI t1:pX ⟨l0,H⟩= .ok .next ⟨l,H⟩:=by
  haveI v:∀q,dq (.int cell) (.int 10) q= .ok (.int more) q:=λq=>iD ∅ em
  exists c0,v,e1
 have gZ:∀ {q':S},ay (il) (ay (lg) (ay (lh) (ay (ll) (pY)))) ⟨l,H⟩= .ok (.ret (.bool true)) q'->AM c col H p len xs ri d za q'.H->G:=λ{q'} hm hE =>
  kG ⟨q'.H,a9 (m:=tT) (q:=q') rfl (by rw [e0];exact ak t1 hm),hE⟩
 by_cases h2:cell.fmod 10<3
 ·obtain ⟨q',t,E⟩:=E7 h o hl h2
  exact gZ (cX t) E
 haveI k2:decide (cell.fmod 10<3)=false:=decide_eq_false h2
 have t2:il ⟨l,H⟩= .ok .next ⟨l,H⟩:=by exists hl.c,jW,k2
 have hL:=h.r.ok.len
 rw [h.r.rl] at hL
 by_cases h3:cell.fmod 10=7/\more.fmod 4=3
 ·haveI k3:decide (cell.fmod 10=7)=true:=decide_eq_true h3.1
  haveI k4:decide (more.fmod 4=3)=true:=decide_eq_true h3.2
  haveI hw:=bB more len (by exact cI 0x99019811 hL.1)
  haveI md:∀q,bw (.int more) (.int len) q= .ok (.int (more.fmod len)) q:=λq=>c9 (by exact λx9=>cI 0x9096090a1019812 hL.1 x9) rfl
  haveI d1:∀q,aW (.tup [.int p,.int len,.ref za]) (.int 1) q= .ok (.int len) q:=λq=>rfl
  obtain ⟨H1,t,p1⟩:=vR h (w:=1+more.fmod len) (by exact cI 0x19c198009811 hw.1)
  obtain ⟨g1,E1⟩:=h.pre p1
  refine gZ (q':=⟨l,H1⟩) (ak t2 (cX ?_)) ⟨_,r,es,g1,o,E1⟩
  exists hl.c,jW,k3,hl.m,I0,k4,hl.r,hl.w,d1,md,t
 have t3:lg ⟨l,H⟩= .ok .next ⟨l,H⟩:=by
  by_cases h3':cell.fmod 10=7
  ·haveI k3:decide (cell.fmod 10=7)=true:=decide_eq_true h3'
   haveI k4:decide (more.fmod 4=3)=false:=decide_eq_false λq=>h3 ⟨h3',q⟩
   exists hl.c,jW,k3,hl.m,I0,k4
  ·haveI k3:decide (cell.fmod 10=7)=false:=decide_eq_false h3'
   exists hl.c,jW,k3
 by_cases h4:cell.fmod 10<8
 ·have k4:decide (cell.fmod 10<8)=true:=decide_eq_true h4
  refine bH (H++[O.dict []]) λH1 eH1=> ?_
  haveI p1:H<+:H1:=⟨_,eH1⟩
  obtain ⟨g1,E1⟩:=h.pre p1
  have nD:u9 ⟨l,H⟩= .ok (.ref H.length) ⟨l,H1⟩:=by rw [<- eH1];rfl
  haveI q0:H1[H.length]? = some (.dict []):=by rw [<- eH1];exact ba _ _
  have eq:BY (.ref d) (.ref H.length) ⟨l,H1⟩= .ok (es.map Hd.ent).isEmpty ⟨l,H1⟩:=by
   unfold BY;dsimp only;rw [g1.d,q0]
  cases es with
  | nil =>
   refine gZ (q':=⟨l,H1⟩) (ak t2 (ak t3 (cX ?_))) ⟨_,r,[],g1,o,E1⟩
   exists hl.c,jW,k4,hl.h,nD,eq
  | cons e0' es0 =>
   obtain ⟨H2,t,E2⟩:=AE g1 o (List.cons_ne_nil _ _) hb
   refine gZ (q':=⟨l,H2⟩) (ak t2 (ak t3 (cX ?_))) (E2.trans E1)
   exists hl.c,jW,k4,hl.h,nD,eq,hl.r,t
 haveI k4:decide (cell.fmod 10<8)=false:=decide_eq_false h4
 have t4:lh ⟨l,H⟩= .ok .next ⟨l,H⟩:=by exists hl.c,jW,k4
 have m3:∀q,bw (.int more) (.int 3) q= .ok (.int (more.fmod 3)) q:=λq=>c9 ∅ rfl
 by_cases h5:cell.fmod 10=9/\more.fmod 3=0
 ·haveI k5:decide (cell.fmod 10=9)=true:=decide_eq_true h5.1
  haveI k6:decide (more.fmod 3=0)=true:=decide_eq_true h5.2
  haveI v:=HR h.r.rm h.r.ok
  rw [h.r.rp] at v
  obtain ⟨r',H1,w1,w2,w3,w4,w5,w6,w7,w8⟩:=v
  obtain ⟨g1,E1⟩:=h.room w2 w3 w4 w6 λi hi=> .inl (w7 i hi)
  refine gZ (q':=⟨l,H1⟩) (ak t2 (ak t3 (ak t4 (cX ?_)))) ⟨_,r',es,g1,⟨by rw [w5,EA];exact o.pm,λe he j v hv=>by rw [w8];exact o.ce e he j v hv⟩,E1⟩
  exists hl.c,jW,k5,hl.m,m3,k6,hl.r,aS h.r.rm (f := "trim") ∅,w1,d5
 haveI t5:ll ⟨l,H⟩= .ok .next ⟨l,H⟩:=by
  by_cases h5':cell.fmod 10=9
  ·haveI k5:decide (cell.fmod 10=9)=true:=decide_eq_true h5'
   haveI k6:decide (more.fmod 3=0)=false:=decide_eq_false λq=>h5 ⟨h5',q⟩
   exists hl.c,jW,k5,hl.m,m3,k6
  ·haveI k5:decide (cell.fmod 10=9)=false:=decide_eq_false h5'
   exists hl.c,jW,k5
 have hsz:=h.r.sz
 have hxl:=yL (a:=0) (b:=len) hsz.rise (λx hx=>⟨hsz.low x hx,hsz.top x hx⟩) (by exact cI 0x98019811 hL.1)
 haveI hx0:0<xs.length:=List.length_pos_iff.mpr (h.r.rx▸h.r.ok.ne)
 haveI hlv:dw [.ref za] ⟨l,H⟩= .ok (.int xs.length) ⟨l,H⟩:=by
  haveI:=cj (l:=l) h.z (by rw [aak];exact id (dE 0xf4240a01090e0f8100003ca0812 hL.2 hxl))
  rw [aak] at this;exact this
 haveI v3:∀q,dq (.int more) (.int 3) q= .ok (.int (more.fdiv 3)) q:=λq=>iD ∅ rfl
 have hi:=bB (more.fdiv 3) xs.length (by exact bO 0xf099009111 hx0)
 refine bH ((more.fdiv 3).fmod xs.length) λi ei=> ?_
 rw [ei] at hi
 obtain ⟨z,he⟩:∃z,xs[i.toNat]? = some z:=⟨_,aao (by exact kK 0x1101fa10f0912 hi.2 (aai hi.1))⟩
 haveI itm:aW (.ref za) (.int i) ⟨l,H⟩= .ok (.int z) ⟨l,H⟩:=nn h.z hi.1 (by exact Ck 0xf4240a190f191090e0f8100003ca0813 hL.2 hxl hi.2) (by rw [List.getElem?_map,he];rfl)
 have d2:∀q,aW (.tup [.int p,.int len,.ref za]) (.int 2) q= .ok (.ref za) q:=λq=>rfl
 obtain ⟨H1,t,E⟩:=EF h o (aaI he)
 refine gZ (q':=⟨l,H1⟩) (ak t2 (ak t3 (ak t4 (ak t5 ?_)))) E
 exists hl.r,hl.w,d2,hl.m,v3,hlv,c9 (JD he) ei,itm,hl.h,t
structure KL (ri d:Nat) (l:bk):Prop where
 r:l "_law_room" = some (.inst "Room" ri)
 h:l "_law_held_here" = some (.ref d)
theorem A9 (h:HG c col H p len xs ri d za r es) (o:eg p len r es) {e:Hd} (he:e∈es):∀(ks:List Int) {l:bk},(∀k∈ks,0<=k/\k<(e.vs.length:Nat))->KL ri d l->l "_law_place" = some (.int e.pl) ->
  ∃l',dD (λ_=>True) (aY "_law_step") (ka) (ks.map V.int) ⟨l,H⟩= .ok .next ⟨l',H⟩/\KL ri d l'
 | [],l,_,hl,_=>⟨l,rfl,hl⟩
 | k::ks,l,hk,hl,hp=>by
  refine nK λG kG=> ?_
  obtain ⟨j,rfl⟩:∃j:Nat,k=j:=⟨k.toNat,by haveI:=hk k (.head _);exact id (aa4 ((aaH _)) (dE 0xf800fa11 (aai this.1)))⟩
  have hj:=(hk _ (.head _)).2
  have bd:=h.b o he
  obtain ⟨v,hv⟩:∃v,e.vs[j]? = some v:=⟨_,aao (by exact bP 0x1011f0f911 hj)⟩
  haveI rd:=h.get o he hv
  refine bH (upd l "_law_step" (.int j)) λl1 e1=> ?_
  refine bH (upd l1 "_law_found" (.int v)) λl2 e2=> ?_
  have r1:=ah e1 ∅ hl.r
  have h1:=ah e1 ∅ hl.h
  have p1:=ah e1 ∅ hp
  have s1:=az e1
  haveI iv:aW (.ref e.ad) (.int j) ⟨l2,H⟩= .ok (.int v) ⟨l2,H⟩:=nn (h.l e he) (by exact bO 0xf0980) (by exact kK 0xf4240a0f9000960a1f0c81009811f0f913 hj bd.1 bd.2.2) (by rw [List.getElem?_map,Int.toNat_natCast,hv];rfl)
  haveI ev:∀q,tB (.int v) (.int v) q= .ok true q:=λq=>yB (decide_eq_true rfl)
  haveI tb:ka ⟨l1,H⟩= .ok .next ⟨l2,H⟩:=by
   refine ak (q':=⟨l2,H⟩) ?_ ?_
   ·exists r1,aS h.r.rm (f := "read") ∅,p1,s1,rd,e2
   ·exists az e2,d5,ah e2 ∅ h1,ah e2 ∅ p1,h.item o he,ah e2 ∅ s1,iv,ev
  obtain ⟨l3,t3,L3⟩:=A9 h o he ks (λk hk'=>hk k (.tail _ hk')) ⟨ah e2 ∅ r1,ah e2 ∅ h1⟩ (ah e2 ∅ p1)
  exact kG ⟨l3,(cN (bq (g_set e1) tb) trivial).trans t3,L3⟩
theorem yD (h:HG c col H p len xs ri d za r es) (o:eg p len r es) {n:Nat} {cs:List V} (hn:H[n]? = some (.list cs)):∀(ks:List Int) {l:bk},(∀k∈ks,k∈es.map Hd.pl)->KL ri d l ->
  ∃l',dD (λH=>ax (.ref n) H=some cs) (aY "_law_place") (kf) (ks.map V.int) ⟨l,H⟩= .ok .next ⟨l',H⟩
 | [],l,_,hl=>⟨l,rfl⟩
 | k::ks,l,hk,hl=>by
  refine nK λG kG=> ?_
  obtain ⟨e,he,q⟩:=aae.mp (hk k (.head _))
  subst q
  refine bH (upd l "_law_place" (.int e.pl)) λl1 e1=> ?_
  haveI b:=h.small o he
  have h1:=ah e1 ∅ hl.h
  have p1:=az e1
  obtain ⟨ys,eys,hys⟩:=uk (e.vs.length:Nat)
  haveI rv:=iN (e.vs.length:Nat) ⟨l1,H⟩ (I6 (by exact ⟨bO 0xf0980,bO 0x3e8a0f800003ca0011 b⟩))
  rw [eys] at rv
  obtain ⟨l2,t2,L2⟩:=A9 h o he ys hys ⟨ah e1 ∅ hl.r,h1⟩ p1
  haveI tb:kf ⟨l1,H⟩= .ok .next ⟨l2,H⟩:=by
   refine bq (a:=⟨ys.map V.int,λ_=>True⟩) (q':=⟨l1,H⟩) ?_ t2
   exists h1,p1,h.item o he,h.ln o he,rv
  obtain ⟨l3,t3⟩:=yD h o hn ks (λk hk'=>hk k (.tail _ hk')) L2
  exact kG ⟨l3,(cN (bq (g_set e1) tb) (sS hn)).trans t3⟩
theorem BK (h:HG c col H p len xs ri d za r es) (o:eg p len r es):∃H',kq [.inst "Room" ri,.ref d] H= .ok (.bool true) H'/\H<+:H':=by
 refine nK λG kG=> ?_
 refine bH (aX ["_law_room", "_law_held_here"] [.inst "Room" ri,.ref d]) λl0 e0=> ?_
 have a2:l0 "_law_held_here" = some (.ref d):=e0▸rfl
 haveI hfw:=h.few o
 haveI st:=h.sorted (by exact bO 0xf4240a01009c40a0011 hfw) l0
 refine bH (H++[O.list ((cH (es.map Hd.pl)).map V.int)]) λH1 eH1=> ?_
 rw [eH1] at st
 have hn1:H1[H.length]? = some (.list ((cH (es.map Hd.pl)).map V.int)):=by rw [<- eH1];exact ba _ _
 obtain ⟨g1,_⟩:=h.pre (⟨_,eH1⟩:H<+:H1)
 obtain ⟨l1,t1⟩:=yD g1 o hn1 (cH (es.map Hd.pl)) (l:=l0) (λk hk=>qS.mp hk) ⟨e0▸rfl,a2⟩
 refine kG ⟨H1,a9 (m:=tU) (q:=⟨l1,H1⟩) rfl ?_,⟨_,eH1⟩⟩
 rw [e0]
 refine ak (q':=⟨l1,H1⟩) (bq (a:=⟨(cH (es.map Hd.pl)).map V.int,λH'=>ax (.ref H.length) H'=some ((cH (es.map Hd.pl)).map V.int)⟩) (q':=⟨l0,H1⟩) ?_ t1) rfl
 exists a2,st,Ag hn1
end
theorem tj {p:Int} (hp:1<=p):cg p=0::(List.range' 1 (p-1).toNat).map Int.ofNat:=by
 obtain ⟨m,rfl⟩:∃m:Nat,p=(m:Int)+1:=⟨(p-1).toNat,by exact aa4 (dE 0x190fc080f190e811 (aaH _)) (dE 0x190fc8190e0fa11 (aai (cI 0x190e098019811 hp)))⟩
 unfold cg
 rw [show ((m:Int)+1).toNat=m+1 by exact aaf (bP 0x191c00191fc0fa11 (aai (bO 0x190fc0980))) (bP 0x1190c01f190fc811 (aaH _)),show ((m:Int)+1-1).toNat=m by exact aaf (bP 0x10019191fce0fa11 (aai (bO 0x19190fce0980))) (bP 0x1001f19190fce811 (aaH _)),List.range_eq_range',List.range'_succ];rfl
theorem IL {p len z:Int} (hp:1<=p):yY p len (λ_=>none) z=some (0,cL (λ_=>none) 0 (some (z,List.replicate (len.fdiv z).toNat false))):=by
 haveI k:dJ p (λ_=>none)=[]:=List.filter_eq_nil_iff.mpr λ_ _ e=>(nomatch e)
 haveI b:tq p (λ_=>none)=0::(List.range' 1 (p-1).toNat).map Int.ofNat:=by
  rw [<- tj hp];exact List.filter_eq_self.mpr λ_ _=>rfl
 haveI f:zV p (λ_=>none)=some 0:=by unfold zV;rw [b]
 haveI s:bW p (λ_=>none) z=[]:=by unfold bW;rw [k];rfl
 unfold yY
 rw [s,E4,f];rfl
theorem Ir {p:Int} (hp:1<=p) {F:Vw} (h0:F 0≠none) (h1:∀x,x≠0->F x=none):tq p F=(List.range' 1 (p-1).toNat).map Int.ofNat:=by
 unfold tq
 rw [tj hp,List.filter_cons,if_neg (by rw [Option.isNone_iff_eq_none];exact h0)]
 refine List.filter_eq_self.mpr λx hx=> ?_
 obtain ⟨i,hi,rfl⟩:=aae.mp hx
 haveI:=List.mem_range'_1.mp hi
 rw [h1 _ (by show (i:Int)≠0;exact id (λx9=>bO 0x9096090fa1019012 this.1 x9))];rfl
noncomputable def tQ (n:Nat) (i:Nat):Nat:=if i<n then 0 else ([1,1,0,1,4,4,0,4,5][i-n]?).getD 0
theorem iG (n j:Nat):tQ n (n+j)=([1,1,0,1,4,4,0,4,5][j]?).getD 0:=by
 unfold tQ;rw [if_neg (Nat.not_lt.mpr (aaK _ _)),aaF]
theorem DG {n i:Nat} (h:i<n):tQ n i=0:=if_pos h
theorem JK {c n pl m:Nat} {H:Hp} {col:Nat->Nat} {p len:Int} {xs:List Int} (hp:1<=p/\p<=40) (hl:1<=len/\len<=60) (hs:je len xs) (hne:xs≠[]) (hm:m≠n+3) (x1:H[n]? = some (.flds (pO pl (n+1) (n+3)))) (x2:H[n+1]? = some (.dict [])) (x3:H[n+3]? = some (.list ((List.replicate (p*len).toNat (0:Int)).map V.int)))
  (x4:H[pl]? = some (.flds (hG p len m))) (x5:H[m]? = some (.list (xs.map V.int))) (c1:col n=c) (c2:col (n+1)=c) (c3:col (n+3)=c) (c4:col pl=0) (c5:col m=0):RG c col H p len xs n (Gw n pl m p len xs):=by
 refine ⟨⟨x1,x4,x5,x2,λs h=>(nomatch h),x3⟩,HA hp hl hs hne hm,rfl,rfl,rfl,λi hi=> ?_,c4,c5⟩
 rcases aah.mp hi with rfl | hi
 ·exact c1
 rcases aah.mp hi with rfl | hi
 ·exact c2
 rcases aah.mp hi with rfl | hi
 ·exact c3
 cases hi
structure L8 (r0 d0 r1 d1 za:Nat) (p len:Int) (l:bk):Prop where
 s:l "_law_script" = some .scr
 w:l "_law_drawn" = some (.tup [.int p,.int len,.ref za])
 r:l "_law_room" = some (.inst "Room" r0)
 h:l "_law_held_here" = some (.ref d0)
 o:l "_law_other" = some (.inst "Room" r1)
 m:l "_law_mine" = some (.ref d1)
section
variable {col:Nat->Nat} {H:Hp} {p len:Int} {xs:List Int} {r0 d0 r1 d1 za:Nat} {r r':Rm} {es es':List Hd} {l:bk}
theorem wo:∀(ks:List Int) {col:Nat->Nat} {H:Hp} {r:Rm} {es:List Hd} {l:bk},(∀k∈ks,0<=k/\k<1000)->HG 1 col H p len xs r0 d0 za r es->eg p len r es->HG 4 col H p len xs r1 d1 za r' es'->L8 r0 d0 r1 d1 za p len l ->
  ∃(l':bk) (H':Hp) (col':Nat->Nat) (r2:Rm) (es2:List Hd),dD (λ_=>True) (aY "_law_k") (wM) (ks.map V.int) ⟨l,H⟩= .ok .next ⟨l',H'⟩/\HG 1 col' H' p len xs r0 d0 za r2 es2/\eg p len r2 es2/\HG 4 col' H' p len xs r1 d1 za r' es'/\L8 r0 d0 r1 d1 za p len l'
 | [],col,H,r,es,l,_,h,o,h',hl=>⟨l,H,col,r,es,rfl,h,o,h',hl⟩
 | k::ks,col,H,r,es,l,hk,h,o,h',hl=>by
  refine nK λG kG=> ?_
  obtain ⟨cell,tc,hb⟩:=BJ H k (hk k (.head _)).1 (hk k (.head _)).2
  obtain ⟨H1,t1,E1⟩:=FU h o hb
  refine bH (upd l "_law_k" (.int k)) λl1 e1=> ?_
  have L1:L8 r0 d0 r1 d1 za p len l1:=⟨ah e1 ∅ hl.s,ah e1 ∅ hl.w,ah e1 ∅ hl.r,ah e1 ∅ hl.h,ah e1 ∅ hl.o,ah e1 ∅ hl.m⟩
  haveI tb:wM ⟨l1,H⟩= .ok .next ⟨l1,H1⟩:=by exists L1.r,L1.w,L1.h,L1.s,az e1,tc,t1
  cases E1 with
  | mk col1 rr1 es1 g1 o1 e1' =>
   obtain ⟨l2,H2,col2,r2,es2,t2,z⟩:=wo ks (λk hk'=>hk k (.tail _ hk')) g1 o1 (h'.frame e1' ∅ (.inr ∅)) L1
   exact kG ⟨l2,H2,col2,r2,es2,(cN (bq (g_set e1) tb) trivial).trans t2,z⟩
theorem Hn (h':HG 4 col H p len xs r1 d1 za r' es') (o':eg p len r' es') (hl:L8 r0 d0 r1 d1 za p len l) {z:Int} {tl:List Int} (hx:xs=z::tl) (h0:∃bs,look r'.ss 0=some (z,bs)) (h1:∀x,x≠0->look r'.ss x=none) (hk:es'.map Hd.pl=[0]) :
  ∃H',BE ⟨l,H⟩= .ok .next ⟨l,H'⟩/\H<+:H':=by
 refine nK λG kG=> ?_
 have hp:=h'.r.ok.p
 rw [h'.r.rp] at hp
 obtain ⟨bs,hbs⟩:=h0
 haveI v:=AB h'.r.rm h'.r.ok
 rw [xp,h'.r.rp,Ir hp.1 (by rw [hbs];exact λe=>(nomatch e)) h1] at v
 obtain ⟨H1,v1,eH1⟩:=v
 refine bH (((List.range' 1 (p-1).toNat).map Int.ofNat).map V.int) λvs evs=> ?_
 rw [evs] at eH1
 have p1:H<+:H1:=⟨_,eH1.symm⟩
 haveI q1:H1[H.length]? = some (.list vs):=by rw [eH1];exact ba _ _
 haveI rl:nq [.int 1,.int p] ⟨l,H1⟩= .ok (.ref H1.length) ⟨l,H1++[.list vs]⟩:=by
  show (if (0<=(1:Int)/\1<=p)/\p<1000 then _ else _)=_
  haveI:=iq (p-1).toNat 1
  rw [evs] at this
  rw [if_pos ⟨⟨by decide,hp.1⟩,Int.lt_of_le_of_lt hp.2 ∅⟩,<- this];rfl
 refine bH (H1++[O.list vs]) λH2 eH2=> ?_
 rw [eH2] at rl
 have p2:H1<+:H2:=⟨_,eH2⟩
 haveI eq1:=Gi (l:=l) (⟨aE p2 q1,by rw [<- eH2];exact ba _ _,by rw [<- evs];exact FI _⟩:Rf H2 H.length H1.length vs)
 haveI th:ck p len (look r'.ss)=[(0,z)]:=by
  haveI hln:=congrArg List.length hk
  rw [aak] at hln
  match es',hln,hk,o' with
  | [e],_,hk,o' =>
   haveI pm:=o'.pm
   rw [List.map_singleton] at pm
   have t:=List.perm_singleton.mp pm.symm
   obtain ⟨g,z',bs',j,hF,hj,q⟩:=sV (by rw [t];exact .head _:e.thg∈ck p len (look r'.ss))
   haveI hg:g=0:=Classical.byContradiction λhg=>by rw [h1 g hg] at hF;cases hF
   subst hg
   rw [hbs] at hF
   cases hF
   haveI:e.pl=0:=(List.cons.inj hk).1
   rw [t,show e.thg=(0,z) from Prod.ext this (Prod.mk.inj q).2]
 obtain ⟨g2,_⟩:=h'.pre (p1.trans p2)
 haveI w:=EH g2.r.rm g2.r.ok
 rw [h'.r.rp,h'.r.rl,th] at w
 obtain ⟨n3,H3,w1,p3,n3l,w3⟩:=w
 haveI nl:fN [.tup [.int 0,.int z]] ⟨l,H3⟩= .ok (.ref H3.length) ⟨l,H3++[.list [.tup [.int 0,.int z]]]⟩:=by rw [kQ];exact if_pos (show 1<=1000000 by decide)
 refine bH (H3++[O.list [.tup [.int 0,.int z]]]) λH4 eH4=> ?_
 rw [eH4] at nl
 have p4:H3<+:H4:=⟨_,eH4⟩
 haveI eq2:=Gi (l:=l) (⟨aE p4 w3,by rw [<- eH4];exact ba _ _,Ea _⟩:Rf H4 n3 H3.length ([(0,z)].map aO))
 haveI d0':∀q,aW (.tup [.int p,.int len,.ref za]) (.int 0) q= .ok (.int p) q:=λq=>rfl
 haveI d2:∀q,aW (.tup [.int p,.int len,.ref za]) (.int 2) q= .ok (.ref za) q:=λq=>rfl
 haveI it:aW (.ref za) (.int 0) ⟨l,H3⟩= .ok (.int z) ⟨l,H3⟩:=nn (aE p3 g2.z) ∅ ∅ (by rw [hx];rfl)
 refine kG ⟨H4,?_,((p1.trans p2).trans p3).trans p4⟩
 exists hl.o,aS h'.r.rm (f := "pile") ∅,v1,hl.w,d0',rl,eq1,aS g2.r.rm (f := "things") ∅,w1,d2,it,nl,eq2
end
theorem yK (hsn:sn.length<=1000):∃H',Gj [.scr] []= .ok (.bool true) H':=by
 refine nK λG kG=> ?_
 refine bH (aX ["_law_script"] [.scr]) λl0 e0=> ?_
 have a0:l0 "_law_script" = some .scr:=e0▸rfl
 obtain ⟨p,len,xs,za,H1,t,z,hp,hl,hs,hne,h8⟩:=CA
 refine bH (upd l0 "_law_drawn" (.tup [.int p,.int len,.ref za])) λl1 e1=> ?_
 haveI t1:Bw ⟨l0,[]⟩= .ok .next ⟨l1,H1⟩:=by exists a0,t,e1
 haveI d0:∀q,aW (.tup [.int p,.int len,.ref za]) (.int 0) q= .ok (.int p) q:=λq=>rfl
 haveI d1:∀q,aW (.tup [.int p,.int len,.ref za]) (.int 1) q= .ok (.int len) q:=λq=>rfl
 haveI d2:∀q,aW (.tup [.int p,.int len,.ref za]) (.int 2) q= .ok (.ref za) q:=λq=>rfl
 haveI li:=y7 (o:= .ref za) l1 H1 (sS z) (by rw [aak];exact id (bO 0xf4240a00890011 h8))
 refine bH (H1++[O.list (xs.map V.int)]) λH2 eH2=> ?_
 rw [eH2] at li
 haveI mk:=Cg (l:=l1) hp hl hs hne h8 (by rw [<- eH2];exact ba _ _:H2[H1.length]? = some (.list (xs.map V.int)))
 refine bH (H2.length) λpl epl=> ?_
 rw [epl] at mk
 refine bH (H2++[O.flds (hG p len (pl+1)),O.list (xs.map V.int)]) λH eH=> ?_
 rw [eH] at mk
 have z':H[za]? = some (.list (xs.map V.int)):=by rw [<- eH,<- eH2];exact aE ⟨_,rfl⟩ (aE ⟨_,rfl⟩ z)
 have x4:H[pl]? = some (.flds (hG p len (pl+1))):=by rw [<- eH,<- epl];exact wX H2 _ 0
 have x5:H[pl+1]? = some (.list (xs.map V.int)):=by rw [<- eH,<- epl];exact wX H2 _ 1
 refine bH (upd l1 "_law_plan" (.inst "Plan" pl)) λl2 e2=> ?_
 have a1:=az e1
 haveI t2:Bx ⟨l1,H1⟩= .ok .next ⟨l2,H⟩:=by exists a1,d0,d1,d2,li,mk,e2
 refine bH (H.length) λn en=> ?_
 have a2:=az e2
 haveI r1:=EG (l:=l2) x4 hp hl
 rw [en] at r1
 refine bH (upd l2 "_law_room" (.inst "Room" n)) λl3 e3=> ?_
 haveI t3:By ⟨l2,H⟩= .ok .next ⟨l3,H++hH n pl p len⟩:=by exists a2,r1,e3
 have en5:(H++hH n pl p len).length=n+4:=DH en rfl
 haveI r2:=EG (l:=l3) (aE (H':=H++hH n pl p len) ⟨_,rfl⟩ x4) hp hl
 rw [en5] at r2
 refine bH (upd l3 "_law_other" (.inst "Room" (n+4))) λl4 e4=> ?_
 haveI t4:Bz ⟨l3,H++hH n pl p len⟩= .ok .next ⟨l4,H++hH n pl p len++hH (n+4) pl p len⟩:=by exists ah e3 ∅ a2,r2,e4
 haveI en6:(H++hH n pl p len++hH (n+4) pl p len).length=n+8:=DH en5 rfl
 refine bH (upd l4 "_law_mine" (.ref (n+8))) λl5 e5=> ?_
 obtain ⟨T,eT⟩:∃T:Hp,hH n pl p len++(hH (n+4) pl p len++[O.dict []])=T:=⟨_,rfl⟩
 haveI t5:BA ⟨l4,H++hH n pl p len++hH (n+4) pl p len⟩= .ok .next ⟨l5,H++T⟩:=by
  haveI nd:u9 ⟨l4,H++hH n pl p len++hH (n+4) pl p len⟩= .ok (.ref (n+8)) ⟨l4,H++T⟩:=by
   rw [<- en6,<- eT,<- aad,<- aad];rfl
  exists nd,e5
 have Gt:∀j,(H++T)[n+j]? = T[j]? := λj=>by rw [<- en];exact wX _ _ _
 have P:∀ {i o},H[i]? = some o->(H++T)[i]? = some o/\tQ n i=0:=λh=>⟨aE ⟨_,rfl⟩ h,DG (en▸bj h)⟩
 have lm:pl+1<n:=en▸bj x5
 have g0:RG 1 (tQ n) (H++T) p len xs n (Gw n pl (pl+1) p len xs):=JK hp hl hs hne (by exact λx9=>bP 0x9096391c190c311190c112 lm x9) ((Gt 0).trans (eT▸rfl)) ((Gt 1).trans (eT▸rfl)) ((Gt 3).trans (eT▸rfl)) (P x4).1 (P x5).1 (iG n 0) (iG n 1) (iG n 3) (P x4).2 (P x5).2
 have g1:RG 4 (tQ n) (H++T) p len xs (n+4) (Gw (n+4) pl (pl+1) p len xs):=JK hp hl hs hne (by exact λx9=>bP 0x909639491cc190c311190c112 lm x9) ((Gt 4).trans (eT▸rfl)) ((Gt 5).trans (eT▸rfl)) ((Gt 7).trans (eT▸rfl)) (P x4).1 (P x5).1 (iG n 4) (iG n 5) (iG n 7) (P x4).2 (P x5).2
 have h1:HG 4 (tQ n) (H++T) p len xs (n+4) (n+8) za (Gw (n+4) pl (pl+1) p len xs) []:=⟨g1,iG n 8,(Gt 8).trans (eT▸rfl),λe he=>(nomatch he),λe he=>(nomatch he),.nil,(P z').2,(P z').1,by decide⟩
 have o1:∀m,eg p len (Gw m pl (pl+1) p len xs) []:=λm=>⟨by show [].Perm (ck p len (look []));rw [Ez],λe he=>(nomatch he)⟩
 obtain ⟨zz,tl,hx⟩:∃zz tl,xs=zz::tl:=by
  cases xs with
  | nil=>exact absurd rfl hne
  | cons a b=>exact ⟨a,b,rfl⟩
 have hz1:1<=zz:=hs.low zz (hx ▸ .head _)
 have hf:xs.find? (λx=>decide (x>=1))=some zz:=by rw [hx];exact aaG (decide_eq_true hz1)
 cases A0 h1 (o1 _) (w:=1) ∅ 7 hf (IL hp.1) with
 | mk H6 col6 r6 es6 bs k t6 g6 o6 E6 f1 f2 lk6 ks6 =>
 dsimp only at f1 lk6 ks6
 rw [bM] at f1
 obtain ⟨_,rfl⟩:=Prod.mk.inj (Option.some.inj f1)
 have hpos:0<(len.fdiv zz).toNat:=by
  obtain ⟨u1,u2,u3,u4⟩:=dH (a:=len) (b:=zz) (by exact cI 0x98019811 hl.1) hz1
  have:=tC u1 u4 (hs.top zz (hx ▸ .head _))
  exact id (dE 0x910f081019812 this (aaH _))
 rw [oF hpos] at f2
 cases f2
 rw [j4] at lk6
 haveI lk0:∃bs,look r6.ss 0=some (zz,bs):=⟨_,by rw [lk6,bM]⟩
 haveI lk1:∀x,x≠0->look r6.ss x=none:=λx hx=>by rw [lk6,dm _ _ hx]
 have ks6:es6.map Hd.pl=[0]:=by rw [ks6];show [0*len+((0:Nat):Int)*zz]=[0];rw [Int.zero_mul,Int.natCast_zero,Int.zero_mul,Int.add_zero]
 haveI g6':RG 1 col6 H6 p len xs n (Gw n pl (pl+1) p len xs):=g0.keep E6.chg (λi hi _=>by have:=pG.mp hi;exact id (⟨λx9=>bO 0x909619021049012 this.2.1 x9,λx9=>bO 0x909609021049012 this.2.1 x9⟩)) E6.col
 haveI b0:=ah e5 ∅ (ah e4 ∅ (ah e3 ∅ (ah e2 ∅ (ah e1 ∅ a0))))
 have b1:=ah e5 ∅ (ah e4 ∅ (ah e3 ∅ (ah e2 ∅ a1)))
 haveI b2:=ah e5 ∅ (ah e4 ∅ (az e3))
 have b3:=ah e5 ∅ (az e4)
 have b4:=az e5
 haveI st:=g6.sorted (by have:=g6.few o6;exact id (bO 0xf4240a01009c40a0011 this)) l5
 rw [ks6] at st
 refine bH (H6++[O.list ((cH [0]).map V.int)]) λH7 eH7=> ?_
 rw [eH7] at st
 haveI q7:H7[H6.length]? = some (.list ([0].map V.int)):=by rw [<- eH7];exact ba _ _
 refine bH (H7++[O.list ([0].map V.int)]) λH8 eH8=> ?_
 haveI nl:fN [.int 0] ⟨l5,H7⟩= .ok (.ref H7.length) ⟨l5,H8⟩:=by rw [kQ,<- eH8];exact if_pos (show 1<=1000000 by decide)
 have p8:H7<+:H8:=⟨_,eH8⟩
 haveI eq8:=jX (q:=⟨l5,H8⟩) (aE p8 q7) (by show H8[H7.length]? = _;rw [<- eH8];exact ba _ _)
 rw [decide_eq_true rfl] at eq8
 haveI t6:BB ⟨l5,H++T⟩= .ok .next ⟨l5,H8⟩:=by exists b3,b1,b4,t6,st,nl,eq8
 refine bH (H8++[O.dict []]) λH9 eH9=> ?_
 refine bH (upd l5 "_law_held_here" (.ref H8.length)) λl7 e7=> ?_
 haveI nD:u9 ⟨l5,H8⟩= .ok (.ref H8.length) ⟨l5,H9⟩:=by rw [<- eH9];rfl
 haveI t7:BC ⟨l5,H8⟩= .ok .next ⟨l7,H9⟩:=by exists nD,e7
 have p7:H6<+:H7:=⟨_,eH7⟩
 have p9:H6<+:H9:=p7.trans (p8.trans ⟨_,eH9⟩)
 haveI l68:H6.length<=H8.length:=(p7.trans p8).length_le
 refine bH (iP col6 H6.length 2 [H8.length]) λcol9 ec9=> ?_
 have cl9:∀i,i<H6.length->col9 i=col6 i:=λi hi=>by rw [<- ec9];exact cS hi
 haveI E9:rU 1 col6 H6 col9 H9:=⟨p9.length_le,λi hi _=>(cM.pre (F:=[]) p9).same i hi λh=>(nomatch h),cl9⟩
 have g9:HG 4 col9 H9 p len xs (n+4) (n+8) za r6 es6:=g6.frame E9 ∅ (.inr ∅)
 haveI h9:HG 1 col9 H9 p len xs n H8.length za (Gw n pl (pl+1) p len xs) []:=⟨g6'.keep (F:=[]) (cM.pre p9) (λi hi=>(nomatch hi)) cl9,by rw [<- ec9];exact um (Nat.not_lt.mpr l68) (.head _),by rw [<- eH9];exact ba _ _,λe he=>(nomatch he),λe he=>(nomatch he),.nil,g9.cz,g9.z,by decide⟩
 have L7:L8 n H8.length (n+4) (n+8) za p len l7:=⟨ah e7 ∅ b0,ah e7 ∅ b1,ah e7 ∅ b2,az e7,ah e7 ∅ b3,ah e7 ∅ b4⟩
 obtain ⟨ks,rv,hks⟩:∃ks:List Int,dh [.int 4,.int sn.length] ⟨l7,H9⟩= .ok ⟨ks.map V.int,λ_=>True⟩ ⟨l7,H9⟩/\ ∀k∈ks,0<=k/\k<1000:=by
  refine ⟨(List.range' 4 ((sn.length:Int)-4).toNat).map Int.ofNat,?_,λk hk=> ?_⟩
  ·rw [<- iq]
   unfold dh;dsimp only
   rw [if_pos ⟨by decide,Int.lt_of_lt_of_le ∅ (Int.natCast_nonneg _),Int.lt_of_le_of_lt (Int.ofNat_le.mpr hsn) ∅⟩];rfl
  ·obtain ⟨i,hi,rfl⟩:=aae.mp hk
   have:=List.mem_range'_1.mp hi
   show 0<=(i:Int)/\(i:Int)<1000
   omega
 obtain ⟨l9,Ha,cola,ra,esa,ta,ha,oa,ga,La⟩:=wo ks hks h9 (o1 _) g9 L7
 haveI t8:BD ⟨l7,H9⟩= .ok .next ⟨l9,Ha⟩:=by
  haveI ln:∀q,dw [.scr] q= .ok (.int sn.length) q:=λq=>rfl
  refine bq (a:=⟨ks.map V.int,λ_=>True⟩) (q':=⟨l7,H9⟩) ?_ ta
  exists L7.s,ln,rv
 obtain ⟨Hb,t9,pb⟩:=Hn ga o6 La hx lk0 lk1 ks6
 obtain ⟨hb,_⟩:=ha.pre pb
 obtain ⟨Hc,tc,pc⟩:=BK hb oa
 obtain ⟨gc,_⟩:=ga.pre (pb.trans pc)
 obtain ⟨Hd',td,_⟩:=BK gc o6
 refine kG ⟨Hd',a9 (m:=Gn) (q:=⟨l9,Hd'⟩) rfl ?_⟩
 rw [e0]
 refine ak t1 (ak t2 (ak t3 (ak t4 (ak t5 (ak t6 (ak t7 (ak t8 (ak t9 ?_))))))))
 exists La.r,La.h,tc,La.o,La.m,td
theorem Jf:∀t:Tp,bF t.G->wJ 437 t.G:=gZ λC s R a b c d=>HC C (IN C) ∅ a b c (yK (aam C.short ∅)) d
end
end Mine.Lake
open PySem PySem.W PyProof.Rows
namespace Mine.all
def tw10034031380863371641:=True
def tw10073190252686323273:=True
def tw10077021127784546118:=True
def tw10081088541268293599:=True
def tw10130366669087276332:=True
def tw10131221437080536637:=True
def tw10156424416328317940:=True
def tw10252965763247687682:=True
def tw10268101183197098196:=True
def tw10277526245819850656:=True
def tw10312239555926195531:=True
def tw10316705163991428254:=True
def tw10323370424266482742:=True
def tw10389294372677164839:=True
def tw10393596885623623503:=True
def tw10407399669362838719:=True
def tw10576110018494610262:=True
def tw10600613889749566790:=True
def tw10636018739910865072:=True
def tw10640303290150162726:=True
def tw10658958392246782621:=True
def tw10681620039792923934:=True
def tw10696458614491829572:=True
def tw10705108097460422218:=True
def tw10793401674749092046:=True
def tw1081408078033650336:=True
def tw10856765595117590405:=True
def tw1087592473283359003:=True
def tw10915074446201010522:=True
def tw10921597071642053482:=True
def tw10923070005692675132:=True
def tw10985738487003121266:=True
def tw11038128598146805730:=True
def tw11045270430615452010:=True
def tw11051373392699811023:=True
def tw11051709101105081487:=True
def tw11084693905056812178:=True
def tw11091474679367250208:=True
def tw11093295523969242068:=True
def tw11113120797386210373:=True
def tw11116879363250112325:=True
def tw11139934685464864865:=True
def tw11169558830825096451:=True
def tw11230645906715702508:=True
def tw11242623580682996947:=True
def tw11333907896045031016:=True
def tw11375281295658956675:=True
def tw11441816438227186863:=True
def tw11448872678469705673:=True
def tw11488495728068971930:=True
def tw11563076530477234726:=True
def tw11573567738276184859:=True
def tw11584583377287094653:=True
def tw11639333894188339638:=True
def tw11736780227944870738:=True
def tw11757652711159077200:=True
def tw11776277695535270532:=True
def tw11784725038316003381:=True
def tw11798761498685784450:=True
def tw11928815663860865973:=True
def tw11931136993785318394:=True
def tw11931918283646908614:=True
def tw11961059351148515626:=True
def tw12071712058454129317:=True
def tw12139988101201813748:=True
def tw12165253757503004218:=True
def tw1216898108829112853:=True
def tw12180536567876656950:=True
def tw12221947951091446842:=True
def tw12248520049373816357:=True
def tw12254430714555821875:=True
def tw12267468486907949403:=True
def tw12381699962588209086:=True
def tw12405882331826627501:=True
def tw12428716410969305734:=True
def tw12447178028490564450:=True
def tw125183967897747985:=True
def tw12540455083557110006:=True
def tw12563031120210811263:=True
def tw12580110897883145167:=True
def tw12588980310967471357:=True
def tw12784588452913835247:=True
def tw12803817524326497440:=True
def tw12885334096101347146:=True
def tw12899656968702213925:=True
def tw12985212532813657682:=True
def tw1298631472846954095:=True
def tw13027540482245733427:=True
def tw13042374122123996364:=True
def tw13057232943065969744:=True
def tw13098716769926991806:=True
def tw13100642850353945058:=True
def tw13132907815185506690:=True
def tw13135058765949404771:=True
def tw13137606615479501558:=True
def tw13172091369480311280:=True
def tw13185015893256467352:=True
def tw13215351417096909983:=True
def tw1323426155142419162:=True
def tw1326175403826912198:=True
def tw13270532327374429287:=True
def tw1327343985113690801:=True
def tw13283931332471535325:=True
def tw13287983979805608293:=True
def tw13320810954380615167:=True
def tw13338274903956020161:=True
def tw13370487131934946175:=True
def tw13423135486485445016:=True
def tw13463606980367379903:=True
def tw13492395982464255480:=True
def tw13492775673106092688:=True
def tw1352723322627576488:=True
def tw13596499734656872166:=True
def tw13607757164722159089:=True
def tw13663018214320142090:=True
def tw13752750167953387420:=True
def tw13900070722340429276:=True
def tw13912068318134460016:=True
def tw13928513891281363954:=True
def tw13930999109560414629:=True
def tw13960862262899742394:=True
def tw14003663102062188800:=True
def tw14076077854437140390:=True
def tw14081932915414352519:=True
def tw14099800850047386279:=True
def tw14106571916235994328:=True
def tw14204109254541194217:=True
def tw14242173848286271349:=True
def tw14274756557212989909:=True
def tw14288127532215574351:=True
def tw14310873030558110092:=True
def tw14331890051309236264:=True
def tw14420213329864412023:=True
def tw14421808642430287336:=True
def tw14444207656584330654:=True
def tw1446736226897199258:=True
def tw14523845485542788104:=True
def tw14539000326390715668:=True
def tw14647661154017913664:=True
def tw14648097213134440425:=True
def tw14684334882675511859:=True
def tw14721843458392949018:=True
def tw14822214895437561417:=True
def tw14832718209330476552:=True
def tw14848961488311411958:=True
def tw14849280956162755979:=True
def tw14883968960377749705:=True
def tw14899674885815798178:=True
def tw14929683446248860828:=True
def tw14970210157437980911:=True
def tw14984247238865676675:=True
def tw15014361466247048854:=True
def tw15059917014629022394:=True
def tw15081044799308232511:=True
def tw15097909243742831393:=True
def tw15105651507014581045:=True
def tw15151187641303801864:=True
def tw15158558636265767147:=True
def tw15176617289070330970:=True
def tw15198316981687975854:=True
def tw15248031165874397040:=True
def tw15305453227285626446:=True
def tw15389465554420088467:=True
def tw15393178847056368160:=True
def tw15395915194887548817:=True
def tw15451204947285891726:=True
def tw15519761934197397234:=True
def tw15575253945988166476:=True
def tw15618092478124507917:=True
def tw15651733941924773997:=True
def tw15670805634923389295:=True
def tw15766547542915688834:=True
def tw15778654729900951400:=True
def tw15849158762323818722:=True
def tw15888951733556516598:=True
def tw15902913901339227234:=True
def tw15906484144062456574:=True
def tw15926794790568321017:=True
def tw16183010546200382306:=True
def tw16223638597430114740:=True
def tw1623444026076324013:=True
def tw16288533217561068507:=True
def tw16296590348105434372:=True
def tw16339503202031470875:=True
def tw16400751074865733910:=True
def tw1644255569911684797:=True
def tw16457593375850944212:=True
def tw16573077582942348641:=True
def tw16644902639655322133:=True
def tw16665526110328478529:=True
def tw16694476904998839863:=True
def tw16720883766928916882:=True
def tw16727532447511142511:=True
def tw16739083755425606968:=True
def tw16740921855470316824:=True
def tw16747629065405408630:=True
def tw16773635481313006432:=True
def tw16779862611959906862:=True
def tw16838893715234930207:=True
def tw16857469709051444266:=True
def tw1694654335647164047:=True
def tw16987476370533704557:=True
def tw17053130121481772103:=True
def tw17133528431856770972:=True
def tw17259241986408110582:=True
def tw17260577670642009320:=True
def tw17292822351017121783:=True
def tw17314943208353570444:=True
def tw17360653242477243975:=True
def tw17368901067910498557:=True
def tw17394647144938102915:=True
def tw17447734377096445370:=True
def tw17468886310826310451:=True
def tw17469454598705902373:=True
def tw17485024515217194642:=True
def tw17523770736405063376:=True
def tw17558465517493045558:=True
def tw1758426702102747128:=True
def tw17590515576409907731:=True
def tw1768962640154500726:=True
def tw17717444079117462278:=True
def tw17740860788197283744:=True
def tw17772726858579744284:=True
def tw17800948086707717751:=True
def tw17846619120630023766:=True
def tw17899929404969355535:=True
def tw17983917188297756147:=True
def tw18003279642469066050:=True
def tw18058516629519361111:=True
def tw18068929663759586442:=True
def tw18074533905802821072:=True
def tw18094267598192979275:=True
def tw18111398738982083773:=True
def tw18118164260907729349:=True
def tw18120535436291149196:=True
def tw18280367432782476751:=True
def tw18291108133853008933:=True
def tw1832691508475867565:=True
def tw18343157571677020557:=True
def tw18369841484834026144:=True
def tw18401889546383288612:=True
def tw18433079168191953831:=True
def tw18433669859833586122:=True
def tw18440353960458814819:=True
def tw18441473437031201941:=True
def tw1936919636151931087:=True
def tw1963270939698246839:=True
def tw1985402699469526011:=True
def tw2000609977361463965:=True
def tw200202858802481044:=True
def tw200952908838891698:=True
def tw2013830700403712203:=True
def tw201708328148552895:=True
def tw2020152571437148077:=True
def tw2054712967208431000:=True
def tw2235618017368140517:=True
def tw225468126006155290:=True
def tw2316775634158704177:=True
def tw2362829445674453831:=True
def tw2366535826993118143:=True
def tw2406872565856053176:=True
def tw2412950195513398651:=True
def tw2479237469882504799:=True
def tw2496985677507960046:=True
def tw2516617250373598065:=True
def tw2528524926150008927:=True
def tw2531900633515307401:=True
def tw2543849888741498996:=True
def tw2627396739876165418:=True
def tw2638793534194840904:=True
def tw2690882624139800689:=True
def tw2711446468545577505:=True
def tw2750322548573693319:=True
def tw2792250951161479536:=True
def tw281770217567036725:=True
def tw282994513109133150:=True
def tw2842816785644039571:=True
def tw2863937026978368667:=True
def tw29985565223642888:=True
def tw3020832510069240704:=True
def tw306535358961565008:=True
def tw3108443244893856389:=True
def tw3138800457800853586:=True
def tw3140866203998610647:=True
def tw3165661143165402847:=True
def tw3185962312253278316:=True
def tw3282140407130366615:=True
def tw3292330881428724558:=True
def tw3298683737301795645:=True
def tw3339628229899013760:=True
def tw3357559941945735724:=True
def tw3390864358609898268:=True
def tw3448833343719912132:=True
def tw3468823194966119755:=True
def tw3477183460249832127:=True
def tw3506556867826905222:=True
def tw3527972740633252992:=True
def tw3578222212851893600:=True
def tw3586251380002802234:=True
def tw3630066180865283129:=True
def tw3737605839529819480:=True
def tw3804168243799541492:=True
def tw3832104259330054055:=True
def tw3835962111665225711:=True
def tw3849640880644552707:=True
def tw3855190133869164905:=True
def tw3949192924188805160:=True
def tw397829171339713761:=True
def tw4049413732980777947:=True
def tw407466490171300439:=True
def tw4154878040674242839:=True
def tw4156143147478942181:=True
def tw4214497047443048748:=True
def tw4215066571649420964:=True
def tw4241227540667249002:=True
def tw4244794441018138637:=True
def tw4258606087713283508:=True
def tw4302931102428780990:=True
def tw4338314545742005754:=True
def tw4350801690150286559:=True
def tw4382491568596388571:=True
def tw44263415142174766:=True
def tw4498182102138418894:=True
def tw4515135292898193881:=True
def tw4544264296663088324:=True
def tw4547723090059260100:=True
def tw4613487602407358717:=True
def tw4613981591765525805:=True
def tw4631590275013254457:=True
def tw4634341240264483431:=True
def tw4645612490112672357:=True
def tw4716985721665009587:=True
def tw4722931859811370693:=True
def tw4726450323565452186:=True
def tw4734295533608761528:=True
def tw4786962568827011835:=True
def tw4801688742562958406:=True
def tw4814944892674192296:=True
def tw4831860214510110302:=True
def tw4835796080096327916:=True
def tw4847766330237268548:=True
def tw4907521953547317329:=True
def tw4927947371108770993:=True
def tw4942582282674782268:=True
def tw4965207536615798822:=True
def tw497388943360791162:=True
def tw4983024317834737482:=True
def tw5002070824922625533:=True
def tw5007245332940595331:=True
def tw5044639097624668846:=True
def tw5103420120806187630:=True
def tw5103548895888603802:=True
def tw5162543521180666497:=True
def tw5180124137545327432:=True
def tw5187159431361770467:=True
def tw5191467471856622273:=True
def tw5213130599944360801:=True
def tw5217560924200664910:=True
def tw5221675337516389627:=True
def tw5247617807198155932:=True
def tw5362506446432344171:=True
def tw5377772837010204750:=True
def tw5439016543574858206:=True
def tw5440085390276978291:=True
def tw549974085012918235:=True
def tw5543487718492105064:=True
def tw5555718599999811639:=True
def tw5615934883764171431:=True
def tw5646013916729498261:=True
def tw5646740079091317433:=True
def tw5657931515703916248:=True
def tw5718967094426423161:=True
def tw5727973534668710794:=True
def tw5736023835603284372:=True
def tw5747321363474778693:=True
def tw5750698986362780913:=True
def tw5761313309558253367:=True
def tw5781126440621211168:=True
def tw5870148494974776200:=True
def tw5884965284304258897:=True
def tw5919330448614353153:=True
def tw5931688323066260514:=True
def tw596421839371371174:=True
def tw6169999212503205497:=True
def tw6178583632892115015:=True
def tw6189357195160471388:=True
def tw6223034424235540279:=True
def tw6271033356711949733:=True
def tw6339813644084220483:=True
def tw6393532188824929214:=True
def tw6405578165278201989:=True
def tw6463586667631589129:=True
def tw6495733333828780514:=True
def tw6635522753158126860:=True
def tw6648324312943424196:=True
def tw6656463916972431421:=True
def tw6674347012523051200:=True
def tw6686757251022233349:=True
def tw6717767316833874322:=True
def tw6742200501135914891:=True
def tw6758946091281148827:=True
def tw6836359950869179439:=True
def tw6849123771955923804:=True
def tw6853843781069519680:=True
def tw6860577389561355601:=True
def tw6873541528101158377:=True
def tw6888782338466086140:=True
def tw6900727353157573822:=True
def tw6946980451890315270:=True
def tw7091565871241343341:=True
def tw7159026401054745538:=True
def tw7205895575636617080:=True
def tw7272270352196073673:=True
def tw7317653850160689691:=True
def tw7347299435816893626:=True
def tw7347661181068853997:=True
def tw7400686549319467544:=True
def tw7514489123796633772:=True
def tw7546461858588002845:=True
def tw7619113539625694710:=True
def tw7660858615051961871:=True
def tw766856551031688912:=True
def tw76700771618905059:=True
def tw7686242042924871683:=True
def tw7755422918602135030:=True
def tw7778630667622746703:=True
def tw7779866328928976063:=True
def tw7824222052329908659:=True
def tw7848317997028865603:=True
def tw7855422573467142813:=True
def tw785864177541677141:=True
def tw7898559521017583957:=True
def tw7916160540357663616:=True
def tw7918374967389245632:=True
def tw7946034326556018432:=True
def tw8007103614756019116:=True
def tw8013882960148741844:=True
def tw8026366407565007962:=True
def tw8076105961534405009:=True
def tw8096221689764760052:=True
def tw8108845850537571710:=True
def tw8111057081096800836:=True
def tw8146785798897364014:=True
def tw8183209053709734173:=True
def tw8203446524507428889:=True
def tw8316665608867782698:=True
def tw8322597137079436277:=True
def tw8398887430952950212:=True
def tw8401958774316805891:=True
def tw8486705261324164726:=True
def tw8543756510809834644:=True
def tw8593244855664925795:=True
def tw8600759836979252552:=True
def tw8670540905479144303:=True
def tw8678582069086723682:=True
def tw8711421783369662179:=True
def tw8728704332973717658:=True
def tw8749193726656077916:=True
def tw8820459466428253018:=True
def tw884644925536651315:=True
def tw8865166961438382494:=True
def tw888978351763286717:=True
def tw8908958038130373740:=True
def tw8909644736058714228:=True
def tw8968355716326206664:=True
def tw898707613593260451:=True
def tw9069304868558884969:=True
def tw9099960808112739735:=True
def tw9111709882147129655:=True
def tw9131408386013701786:=True
def tw9133701021851612117:=True
def tw9163178095015654352:=True
def tw9199061776082140725:=True
def tw927500100414286832:=True
def tw9285670843845949155:=True
def tw9301309066579124778:=True
def tw9305783451064888827:=True
def tw9351078540693612215:=True
def tw9385597778382524922:=True
def tw9448091282758670523:=True
def tw9496632788025766839:=True
def tw9514876090768664877:=True
def tw9526568234960664165:=True
def tw9583210561881525909:=True
def tw9592678889267232940:=True
def tw9600454056292803967:=True
def tw9642480246203547912:=True
def tw9700507354520375304:=True
def tw9833964599435250050:=True
def tw9900696922168193843:=True
def tw9951171829245705095:=True
def tw9976896545867408452:=True
end Mine.all
theorem Mine.Lake.frag_in {K K' : Frag} {h : Heap} (X : K.In h) (e : (K'.map fun p => K.lookup p.1) = K'.map fun p => some p.2) : K'.In h := fun a o hl => by
  have hm := Mine.Lake.bn hl
  have : ∀ l : Frag, (l.map fun p => K.lookup p.1) = (l.map fun p => some p.2) → (a, o) ∈ l → K.lookup a = some o := fun l => by
    induction l with
    | nil => intro _ h; cases h
    | cons p r ih =>
      intro e h
      rw [List.map_cons, List.map_cons, List.cons.injEq] at e
      rcases List.mem_cons.mp h with rfl | h
      · exact e.1
      · exact ih e.2 h
  exact X a o (this K' e hm)
set_option Elab.async true
theorem Mine.all : PySem.Challenge.rw_uf060003_08.Holds := by
  w_on; o_law; k_head; (case hw => w_witness2)
  intro w s₀ s₁ mg mb G Y fa o pm cd doc dV kV ho hd hcd hD hmg hg args vals as hpre hlay hrd hwl hlo
  have KY := kIn_of Y
  have KX : (Mine.Lake.K0 w.params).In s₁.heap := Mine.Lake.frag_in KY (by kernel_rfl)
  refine Ground.open G ?_
  intro T B D TE TW
  clear hd hcd hD ho
  wrow_args hpre hlay hrd hwl hlo
  rename_i sn _ _ _ _ _ _ _ sa sv _ hL _ _ _ hI _ hlen _
  have hfa : fa = 437 := by
    have h1 : nsIn (Mine.Lake.K0 w.params) mainGlobals (Str.ofString "law") = some (some (.ref 437)) := by kernel_rfl
    have h2 := mg_of KX T.g h1
    have h3 : mg (Str.ofString "law") = some (.ref fa) := hmg
    rw [h2] at h3; injection h3 with h3; injection h3 with h3; exact h3.symm
  subst hfa
  have C : Mine.Lake.bF (Mine.Lake.Gx w s₁.heap s₁.os mg mb sa sv sn) := ⟨KX, T.g, T.b, T.builtins, T.nolimit, T.seer (by decide +kernel), rfl, hL, hI, by show sn.length ≤ 63; omega⟩
  refine enter_call (Mine.Lake.Jf ⟨w, s₁.heap, s₁.os, mg, mb, sa, sv, sn⟩ C s₁ _ rfl rfl hg fun s' hk hos hgn => GoodW.toG ⟨.inl ⟨.bool true, .bool true, [], rfl, fun cls => rfl, .bool true, by kernel_rfl, fun _ => ⟨List.nodup_nil, nofun⟩⟩, hk, hos, hgn⟩)
theorem PySem.Challenge.cw_uf060003_08_holds : PySem.Challenge.rw_uf060003_08.Holds :=
  Mine.all
