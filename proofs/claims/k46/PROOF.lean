import PyProof.Rows.All
import Wide.All
import OpenK.AllK
import Wide.FinOn
import HandS.ForMost
import HandS.ForExc
import HandS.Lambda
import HandS.Star
import HandS.TupAny
import HandS.IsInst
import HandS.Wide
import HandS.Style
import HandS.RaiseMore
import HandS.Strs
import HandS.WordsDict
import HandS.Walk
import HandS.Comp
import HandS.Exc
import HandS.ExcOwn
import HandS.WordsList
import HandS.WordsExc
import HandS.More
import PyProof.FactsAll.list_3
import PyProof.FactsAll.tuple_2
import HandS.Conv
import KE.GoesMore
import PyProof.EnumMake
import HandS.Zip0
import HandS.Zip
import KE.KDictZip
import PyProof.ListNew
import HandS.SortKw
import KE.GoesEnumKw
import HandS.TryMany
import HandS.HeadHook1
import HandS.HeadHook2
import HandS.HeadHook3
import HandS.HeadHook4
import HandS.HeadWalk
import HandS.NestedK
import PyProof.ExcBaseAll.ValueError
import KE.KStateDown
import HandS.Head0
import HandS.Head1
import HandS.Head2
import PySem.Challenge.RW_keptvalues_k46_streams_and_versions
set_option Elab.async false
set_option linter.all false
set_option maxRecDepth 100000
set_option maxHeartbeats 2000000
set_option autoImplicit false
/-! Kv, part A: data seen by value, its relation to the abstract heap, frames and their bases. -/
namespace Kv
open PySem PySem.Spec PyProof.Rows L2

/-- data that never changes -/
inductive P where
  | non | bl (b : Bool) | int (i : Int) | str (s : Str) | tup (xs : List P)
/-- data with lists and dicts in it -/
inductive D where
  | p (x : P) | lst (xs : List D) | dct (kvs : List (Key × D)) | tup (xs : List D) | fz (xs : List P)
/-- a value in a slot, or at hand: unchanging; owned; shared; the list of a slot, not yet read -/
inductive E where
  | p (x : P) | o (d : D) | s (d : D) | b (i : Nat)

abbrev AP := Addr → Prop
def Sep (F G : AP) : Prop := ∀ a, F a → G a → False
def Le (F G : AP) : Prop := ∀ a, F a → G a
theorem Sep.symm {F G : AP} (h : Sep F G) : Sep G F := fun a x y => h a y x
theorem Sep.mono {F G F' G' : AP} (h : Sep F G) (a : Le F' F) (b : Le G' G) : Sep F' G' := fun c x y => h c (a c x) (b c y)
theorem Le.rfl {F : AP} : Le F F := fun _ h => h
theorem Le.trans {F G I : AP} (a : Le F G) (b : Le G I) : Le F I := fun c h => b c (a c h)
def U (F G : AP) : AP := fun a => F a ∨ G a
theorem Le.inl {F G : AP} : Le F (U F G) := fun _ h => .inl h
theorem Le.inr {F G : AP} : Le G (U F G) := fun _ h => .inr h
theorem Le.u {F G I : AP} (a : Le F I) (b : Le G I) : Le (U F G) I := fun c h => h.elim (a c) (b c)
theorem Sep.u {F G I : AP} (a : Sep F I) (b : Sep G I) : Sep (U F G) I := fun c h i => h.elim (fun x => a c x i) fun x => b c x i
theorem Sep.ur {F G I : AP} (a : Sep I F) (b : Sep I G) : Sep I (U F G) := fun c i h => h.elim (fun x => a c i x) fun x => b c i x
def No : AP := fun _ => False
theorem Sep.no {F : AP} : Sep No F := fun _ h => h.elim
theorem Sep.nor {F : AP} : Sep F No := fun _ _ h => h.elim
theorem Le.no {F : AP} : Le No F := fun _ h => h.elim

section
variable (K : PySem.W.Frag) (H : Hp)
/-- a tuple that has no names of its own -/
def TupT (a : Addr) (vs : List V) : Prop :=
  (∃ o, H a = some (.frz o (.tup vs)) ∧ o.dict = none) ∨
    ∃ (o : Obj) (its : Array Value) (n : Nat), K.lookup a = some o ∧ o.cls = .type "tuple" ∧ o.dict = none ∧ o.data = .seq its n ∧ its.size ≤ sizeLine ∧ Vals vs its.toList
mutual
inductive RP : P → V → Prop
  | non : RP .non .non
  | bl (b : Bool) : RP (.bl b) (.bl b)
  | int (i : Int) : RP (.int i) (.int i)
  | str (s : Str) : RP (.str s) (.str s)
  | tup {xs : List P} {vs : List V} {a : Addr} : TupT K H a vs → RPs xs vs → RP (.tup xs) (.ref a)
inductive RPs : List P → List V → Prop
  | nil : RPs [] []
  | cons {x : P} {v : V} {xs : List P} {vs : List V} : RP x v → RPs xs vs → RPs (x :: xs) (v :: vs)
end
/-- a list that is only read -/
def Frz (a : Addr) (vs : List V) (F : AP) : Prop :=
  (H a = some (.lst vs) ∧ F a) ∨ (∃ o, H a = some (.frz o (.lst vs))) ∨
    ∃ (o : Obj) (its : Array Value) (n : Nat), K.lookup a = some o ∧ o.cls = .type "list" ∧ o.dict = none ∧ o.data = .seq its n ∧ its.size ≤ sizeLine ∧ Vals vs its.toList
mutual
inductive RD : D → V → AP → Prop
  | p {x : P} {v : V} {F : AP} : RP K H x v → RD (.p x) v F
  | lst {xs : List D} {vs : List V} {a : Addr} {F G : AP} : H a = some (.lst vs) → RDs xs vs G → Le G F → F a → ¬ G a → RD (.lst xs) (.ref a) F
  | dct {kvs : List (Key × D)} {ps : List (Key × V)} {a : Addr} {F G : AP} : H a = some (.dK ps) → RDk kvs ps G → Le G F → F a → ¬ G a → RD (.dct kvs) (.ref a) F
  | tup {xs : List D} {vs : List V} {a : Addr} {F : AP} : TupT K H a vs → RDs xs vs F → RD (.tup xs) (.ref a) F
  | fz {xs : List P} {vs : List V} {a : Addr} {F : AP} : Frz K H a vs F → RPs K H xs vs → RD (.fz xs) (.ref a) F
inductive RDs : List D → List V → AP → Prop
  | nil {F : AP} : RDs [] [] F
  | cons {d : D} {v : V} {ds : List D} {vs : List V} {F G I : AP} : RD d v F → RDs ds vs G → Sep F G → Le F I → Le G I → RDs (d :: ds) (v :: vs) I
inductive RDk : List (Key × D) → List (Key × V) → AP → Prop
  | nil {F : AP} : RDk [] [] F
  | cons {k : Key} {d : D} {v : V} {ds : List (Key × D)} {vs : List (Key × V)} {F G I : AP} : RD d v F → RDk ds vs G → Sep F G → Le F I → Le G I → RDk ((k, d) :: ds) ((k, v) :: vs) I
end
end

/-- the heap changes: what stands at F, all tuples and all that is locked stay -/
structure Kp (F : AP) (H H' : Hp) : Prop where
  own : ∀ a o, F a → H a = some o → H' a = some o
  tup : ∀ a xs, H a = some (.tup xs) → H' a = some (.tup xs)
  frz : ∀ a o u, H a = some (.frz o u) → H' a = some (.frz o u)
theorem Kp.refl {F : AP} {H : Hp} : Kp F H H := ⟨fun _ _ _ h => h, fun _ _ h => h, fun _ _ _ h => h⟩
theorem Kp.mono {F G : AP} {H H' : Hp} (k : Kp F H H') (h : Le G F) : Kp G H H' := ⟨fun a o g e => k.own a o (h a g) e, k.tup, k.frz⟩
theorem Kp.trans {F : AP} {H H1 H2 : Hp} (a : Kp F H H1) (b : Kp F H1 H2) : Kp F H H2 :=
  ⟨fun c o g e => b.own c o g (a.own c o g e), fun c xs e => b.tup c xs (a.tup c xs e), fun c o u e => b.frz c o u (a.frz c o u e)⟩
theorem Kp.same {F : AP} {H H' : Hp} (h : Same H H') : Kp F H H' := ⟨fun a o _ e => h a o e, fun a xs e => h a _ e, fun a o u e => h a _ e⟩

section
variable {K : PySem.W.Frag} {H H' : Hp}
theorem tupT_kp {F : AP} (k : Kp F H H') {a : Addr} {vs : List V} (h : TupT K H a vs) : TupT K H' a vs := by
  rcases h with ⟨o, h, d⟩ | h
  · exact .inl ⟨o, k.frz _ _ _ h, d⟩
  · exact .inr h
theorem TupT.sq {a : Addr} {vs : List V} (h : TupT K H a vs) : SqT K H a vs := by
  rcases h with ⟨o, h, d⟩ | ⟨o, its, n, h1, h2, _, h3, h4, h5⟩
  · exact .inl (.inr ⟨o, h⟩)
  · exact .inr ⟨o, its, n, h1, h2, h3, h4, h5⟩
mutual
theorem RP.kp {F : AP} (k : Kp F H H') : ∀ {x : P} {v : V}, RP K H x v → RP K H' x v
  | _, _, .non => .non
  | _, _, .bl b => .bl b
  | _, _, .int i => .int i
  | _, _, .str s => .str s
  | _, _, .tup h r => .tup (tupT_kp k h) (RPs.kp k r)
theorem RPs.kp {F : AP} (k : Kp F H H') : ∀ {xs : List P} {vs : List V}, RPs K H xs vs → RPs K H' xs vs
  | _, _, .nil => .nil
  | _, _, .cons h r => .cons (RP.kp k h) (RPs.kp k r)
end
theorem Frz.kp {F : AP} (k : Kp F H H') {a : Addr} {vs : List V} (h : Frz K H a vs F) : Frz K H' a vs F := by
  rcases h with ⟨h, f⟩ | ⟨o, h⟩ | h
  · exact .inl ⟨k.own _ _ f h, f⟩
  · exact .inr (.inl ⟨o, k.frz _ _ _ h⟩)
  · exact .inr (.inr h)
theorem Frz.mono {F G : AP} (l : Le F G) {a : Addr} {vs : List V} (h : Frz K H a vs F) : Frz K H a vs G := by
  rcases h with ⟨h, f⟩ | h | h
  · exact .inl ⟨h, l _ f⟩
  · exact .inr (.inl h)
  · exact .inr (.inr h)
theorem Frz.sq {F : AP} {a : Addr} {vs : List V} (h : Frz K H a vs F) : SqL K H a vs := by
  rcases h with ⟨h, _⟩ | ⟨o, h⟩ | h
  · exact .inl (.inl h)
  · exact .inl (.inr ⟨o, h⟩)
  · exact .inr h
mutual
theorem RD.kp : ∀ {d : D} {v : V} {F : AP}, Kp F H H' → RD K H d v F → RD K H' d v F
  | _, _, _, k, .p h => .p (h.kp k)
  | _, _, _, k, .lst h r l f g => .lst (k.own _ _ f h) (RDs.kp (k.mono l) r) l f g
  | _, _, _, k, .dct h r l f g => .dct (k.own _ _ f h) (RDk.kp (k.mono l) r) l f g
  | _, _, _, k, .tup h r => .tup (tupT_kp k h) (RDs.kp k r)
  | _, _, _, k, .fz h r => .fz (h.kp k) (r.kp k)
theorem RDs.kp : ∀ {d : List D} {v : List V} {F : AP}, Kp F H H' → RDs K H d v F → RDs K H' d v F
  | _, _, _, _, .nil => .nil
  | _, _, _, k, .cons h r s a b => .cons (RD.kp (k.mono a) h) (RDs.kp (k.mono b) r) s a b
theorem RDk.kp : ∀ {d : List (Key × D)} {v : List (Key × V)} {F : AP}, Kp F H H' → RDk K H d v F → RDk K H' d v F
  | _, _, _, _, .nil => .nil
  | _, _, _, k, .cons h r s a b => .cons (RD.kp (k.mono a) h) (RDk.kp (k.mono b) r) s a b
end
mutual
theorem RD.mono : ∀ {d : D} {v : V} {F G : AP}, Le F G → RD K H d v F → RD K H d v G
  | _, _, _, _, _, .p h => .p h
  | _, _, _, _, k, .lst h r l f g => .lst h r (l.trans k) (k _ f) g
  | _, _, _, _, k, .dct h r l f g => .dct h r (l.trans k) (k _ f) g
  | _, _, _, _, k, .tup h r => .tup h (RDs.mono k r)
  | _, _, _, _, k, .fz h r => .fz (h.mono k) r
theorem RDs.mono : ∀ {d : List D} {v : List V} {F G : AP}, Le F G → RDs K H d v F → RDs K H d v G
  | _, _, _, _, _, .nil => .nil
  | _, _, _, _, k, .cons h r s a b => .cons h r s (a.trans k) (b.trans k)
end
theorem RDk.mono : ∀ {d : List (Key × D)} {v : List (Key × V)} {F G : AP}, Le F G → RDk K H d v F → RDk K H d v G
  | _, _, _, _, _, .nil => .nil
  | _, _, _, _, k, .cons h r s a b => .cons h r s (a.trans k) (b.trans k)

theorem RPs.length : ∀ {xs : List P} {vs : List V}, RPs K H xs vs → xs.length = vs.length
  | _, _, .nil => rfl
  | _, _, .cons _ r => by simp [RPs.length r]
theorem RDs.length {F : AP} : ∀ {xs : List D} {vs : List V}, RDs K H xs vs F → xs.length = vs.length
  | _, _, .nil => rfl
  | _, _, .cons _ r _ _ _ => by simp [RDs.length r]
theorem RPs.get : ∀ {xs : List P} {vs : List V} {i : Nat} {x : P}, RPs K H xs vs → xs[i]? = some x → ∃ v, vs[i]? = some v ∧ RP K H x v
  | _, _, _, _, .nil, e => by simp at e
  | _, _, 0, _, .cons h _, e => by simp at e; subst e; exact ⟨_, rfl, h⟩
  | _, _, i + 1, x, .cons _ r, e => by
    obtain ⟨v, a, b⟩ := RPs.get (i := i) (x := x) r (by simpa using e)
    exact ⟨v, by simpa using a, b⟩
theorem RDs.get : ∀ {xs : List D} {vs : List V} {i : Nat} {x : D} {F : AP}, RDs K H xs vs F → xs[i]? = some x → ∃ v, vs[i]? = some v ∧ RD K H x v F
  | _, _, _, _, _, .nil, e => by simp at e
  | _, _, 0, _, _, .cons h _ _ a _, e => by simp at e; subst e; exact ⟨_, rfl, h.mono a⟩
  | _, _, i + 1, x, _, .cons _ r _ _ b, e => by
    obtain ⟨v, a, h⟩ := RDs.get (i := i) (x := x) r (by simpa using e)
    exact ⟨v, by simpa using a, h.mono b⟩
theorem RPs.app : ∀ {xs ys : List P} {vs ws : List V}, RPs K H xs vs → RPs K H ys ws → RPs K H (xs ++ ys) (vs ++ ws)
  | _, _, _, _, .nil, s => s
  | _, _, _, _, .cons h r, s => .cons h (RPs.app r s)
theorem RDs.app {F G I : AP} : ∀ {xs ys : List D} {vs ws : List V}, RDs K H xs vs F → RDs K H ys ws G → Sep F G → Le F I → Le G I → RDs K H (xs ++ ys) (vs ++ ws) I
  | _, _, _, _, .nil, s, _, _, l => s.mono l
  | _, _, _, _, .cons (F := F1) (G := G1) h r sp a b, s, sg, l1, l2 => by
    refine .cons (F := F1) (G := U G1 G) h (RDs.app (I := U G1 G) r s (sg.mono b Le.rfl) Le.inl Le.inr) ?_ (a.trans l1) (Le.u (b.trans l1) l2)
    exact (sp.symm.u (sg.symm.mono Le.rfl a)).symm
/-- a list of unchanging things -/
theorem RDs.ofP {F : AP} : ∀ {xs : List P} {vs : List V}, RPs K H xs vs → RDs K H (xs.map .p) vs F
  | _, _, .nil => .nil
  | _, _, .cons h r => .cons (F := No) (G := F) (.p h) (RDs.ofP r) Sep.no Le.no Le.rfl
theorem RDs.toP {F : AP} : ∀ {xs : List P} {vs : List V}, RDs K H (xs.map .p) vs F → RPs K H xs vs
  | [], _, h => by cases h; exact .nil
  | x :: xs, _, h => by
    cases h with
    | cons h r _ _ _ =>
      cases h with
      | p h => exact .cons h (RDs.toP r)
end
end Kv

set_option Elab.async false
set_option linter.all false
set_option maxRecDepth 100000
set_option maxHeartbeats 2000000
set_option autoImplicit false
/-! Kv, part B: slots, what is at hand, the base of a frame; how these change. -/
namespace Kv
open PySem PySem.Spec PyProof.Rows L2

abbrev G := List (Option E)
abbrev SS := List (Option V)
section
variable (K : PySem.W.Frag) (H : Hp) (T : AP)
/-- an entry: m what it owns; T the shared -/
inductive RS : E → V → AP → Prop
  | p {x : P} {v : V} {m : AP} : RP K H x v → RS (.p x) v m
  | o {d : D} {v : V} {m : AP} : RD K H d v m → RS (.o d) v m
  | s {d : D} {v : V} {m : AP} : RD K H d v T → RS (.s d) v m
inductive RG : G → SS → AP → Prop
  | nil {M : AP} : RG [] [] M
  | hole {Γ : G} {σ : SS} {x : Option V} {M : AP} : RG Γ σ M → RG (Option.none :: Γ) (x :: σ) M
  | full {e : E} {v : V} {Γ : G} {σ : SS} {m M N : AP} : RS K H T e v m → RG Γ σ M → Sep m M → Le m N → Le M N → RG (Option.some e :: Γ) (Option.some v :: σ) N
inductive RK (σ : SS) : List E → List V → AP → Prop
  | nil {M : AP} : RK σ [] [] M
  | nm {i : Nat} {v : V} {es : List E} {vs : List V} {M : AP} : σ[i]? = Option.some (Option.some v) → RK σ es vs M → RK σ (.b i :: es) (v :: vs) M
  | cons {e : E} {v : V} {es : List E} {vs : List V} {m M N : AP} : RS K H T e v m → RK σ es vs M → Sep m M → Le m N → Le M N → RK σ (e :: es) (v :: vs) N
end
section
variable {K : PySem.W.Frag} {H H' : Hp} {T T' : AP}
theorem RS.mono {e : E} {v : V} {m n : AP} (l : Le m n) (h : RS K H T e v m) : RS K H T e v n := by
  cases h with
  | p h => exact .p h
  | o h => exact .o (h.mono l)
  | s h => exact .s h
theorem RS.tmono {e : E} {v : V} {m : AP} (l : Le T T') (h : RS K H T e v m) : RS K H T' e v m := by
  cases h with
  | p h => exact .p h
  | o h => exact .o h
  | s h => exact .s (h.mono l)
theorem RS.kp {e : E} {v : V} {m : AP} (k : Kp (U m T) H H') (h : RS K H T e v m) : RS K H' T e v m := by
  cases h with
  | p h => exact .p (h.kp k)
  | o h => exact .o (h.kp (k.mono Le.inl))
  | s h => exact .s (h.kp (k.mono Le.inr))
theorem RG.mono : ∀ {Γ : G} {σ : SS} {M N : AP}, Le M N → RG K H T Γ σ M → RG K H T Γ σ N
  | _, _, _, _, _, .nil => .nil
  | _, _, _, _, l, .hole r => .hole (RG.mono l r)
  | _, _, _, _, l, .full h r s a b => .full h r s (a.trans l) (b.trans l)
theorem RG.tmono (t : Le T T') : ∀ {Γ : G} {σ : SS} {M : AP}, RG K H T Γ σ M → RG K H T' Γ σ M
  | _, _, _, .nil => .nil
  | _, _, _, .hole r => .hole (RG.tmono t r)
  | _, _, _, .full h r s a b => .full (h.tmono t) (RG.tmono t r) s a b
theorem RG.kp : ∀ {Γ : G} {σ : SS} {M : AP}, Kp (U M T) H H' → RG K H T Γ σ M → RG K H' T Γ σ M
  | _, _, _, _, .nil => .nil
  | _, _, _, k, .hole r => .hole (RG.kp k r)
  | _, _, _, k, .full h r s a b => .full (h.kp (k.mono (Le.u (a.trans Le.inl) Le.inr))) (RG.kp (k.mono (Le.u (b.trans Le.inl) Le.inr)) r) s a b
theorem RK.mono {σ : SS} : ∀ {es : List E} {vs : List V} {M N : AP}, Le M N → RK K H T σ es vs M → RK K H T σ es vs N
  | _, _, _, _, _, .nil => .nil
  | _, _, _, _, l, .nm e r => .nm e (RK.mono l r)
  | _, _, _, _, l, .cons h r s a b => .cons h r s (a.trans l) (b.trans l)
theorem RK.tmono {σ : SS} (t : Le T T') : ∀ {es : List E} {vs : List V} {M : AP}, RK K H T σ es vs M → RK K H T' σ es vs M
  | _, _, _, .nil => .nil
  | _, _, _, .nm e r => .nm e (RK.tmono t r)
  | _, _, _, .cons h r s a b => .cons (h.tmono t) (RK.tmono t r) s a b
theorem RK.kp {σ : SS} : ∀ {es : List E} {vs : List V} {M : AP}, Kp (U M T) H H' → RK K H T σ es vs M → RK K H' T σ es vs M
  | _, _, _, _, .nil => .nil
  | _, _, _, k, .nm e r => .nm e (RK.kp k r)
  | _, _, _, k, .cons h r s a b => .cons (h.kp (k.mono (Le.u (a.trans Le.inl) Le.inr))) (RK.kp (k.mono (Le.u (b.trans Le.inl) Le.inr)) r) s a b
theorem RG.length : ∀ {Γ : G} {σ : SS} {M : AP}, RG K H T Γ σ M → Γ.length = σ.length
  | _, _, _, .nil => rfl
  | _, _, _, .hole r => by simp [RG.length r]
  | _, _, _, .full _ r _ _ _ => by simp [RG.length r]
/-- one slot, and the others -/
theorem RG.get : ∀ {Γ : G} {σ : SS} {M : AP} {i : Nat} {e : E}, RG K H T Γ σ M → Γ[i]? = some (some e) →
    ∃ (v : V) (m R : AP), σ[i]? = some (some v) ∧ RS K H T e v m ∧ Sep m R ∧ Le m M ∧ Le R M ∧
      RG K H T (Γ.set i none) σ R ∧
      ∀ (H' : Hp) (T' : AP) (e' : E) (m' : AP), RS K H' T' e' v m' → Kp (U R T) H H' → Le T T' → Sep m' R → RG K H' T' (Γ.set i (some e')) σ (U m' R)
  | _, _, _, _, _, .nil, h => by simp at h
  | _, _, _, 0, _, .hole _, h => by simp at h
  | _, _, _, 0, e, .full (v := v) (m := m) (M := M') hs r s a b, h => by
    simp at h; subst h
    refine ⟨v, m, M', rfl, hs, s, a, b, .hole r, fun H' T' e' m' h' k t sp => ?_⟩
    exact .full h' (RG.tmono t (RG.kp k r)) sp Le.inl Le.inr
  | _, _, _, i + 1, e, .hole r, h => by
    obtain ⟨v, m, R, h1, h2, h3, h4, h5, h6, h7⟩ := RG.get (i := i) r (by simpa using h)
    exact ⟨v, m, R, by simpa using h1, h2, h3, h4, h5, .hole h6, fun H' T' e' m' a k t s => .hole (h7 H' T' e' m' a k t s)⟩
  | _, _, _, i + 1, e, .full (m := m0) (M := M') hs r s a b, h => by
    obtain ⟨v, m, R, h1, h2, h3, h4, h5, h6, h7⟩ := RG.get (i := i) r (by simpa using h)
    refine ⟨v, m, U m0 R, by simpa using h1, h2, (s.symm.mono h4 Le.rfl).ur h3, h4.trans b, Le.u a (h5.trans b), .full hs h6 (s.mono Le.rfl h5) Le.inl Le.inr, fun H' T' e' m' h' k t sp => ?_⟩
    refine .full (m := m0) (M := U m' R) ((hs.kp (k.mono (Le.u (Le.inl.trans Le.inl) Le.inr))).tmono t) (h7 H' T' e' m' h' (k.mono (Le.u (Le.inr.trans Le.inl) Le.inr)) t (sp.mono Le.rfl Le.inr)) ?_ (Le.inl.trans Le.inr) (Le.u Le.inl (Le.inr.trans Le.inr))
    exact Sep.ur (sp.mono Le.rfl Le.inl).symm (s.mono Le.rfl h5)
/-- a slot is stored anew -/
theorem RG.put : ∀ {Γ : G} {σ : SS} {M : AP} {i : Nat} {e : E} {v : V} {m : AP}, RG K H T Γ σ M → RS K H T e v m → Sep m M → RG K H T (Γ.set i (some e)) (σ.set i (some v)) (U m M)
  | _, _, _, _, _, _, _, .nil, _, _ => by simpa using .nil
  | _, _, _, 0, _, _, _, .hole r, h, s => .full h r s Le.inl Le.inr
  | _, _, _, 0, _, _, _, .full _ r _ _ b, h, s => .full h r (s.mono Le.rfl b) Le.inl (b.trans Le.inr)
  | _, _, _, i + 1, _, _, _, .hole r, h, s => .hole (RG.put r h s)
  | _, _, _, i + 1, _, _, m, .full (m := m0) (M := M') hs r sp a b, h, s =>
    .full hs (RG.put r h (s.mono Le.rfl b)) (Sep.ur (s.mono Le.rfl a).symm sp) (a.trans Le.inr) (Le.u Le.inl (b.trans Le.inr))
theorem RG.drop : ∀ {Γ : G} {σ : SS} {M : AP} (i : Nat), RG K H T Γ σ M → RG K H T (Γ.set i none) σ M
  | _, _, _, _, .nil => by simpa using .nil
  | _, _, _, 0, .hole r => .hole r
  | _, _, _, 0, .full _ r _ _ b => .hole (r.mono b)
  | _, _, _, i + 1, .hole r => .hole (RG.drop i r)
  | _, _, _, i + 1, .full h r s a b => .full h (RG.drop i r) s a b
theorem RG.lose : ∀ {Γ : G} {σ : SS} {M : AP} (i : Nat) (x : Option V), RG K H T Γ σ M → RG K H T (Γ.set i none) (σ.set i x) M
  | _, _, _, _, _, .nil => by simpa using .nil
  | _, _, _, 0, _, .hole r => .hole r
  | _, _, _, 0, _, .full _ r _ _ b => .hole (r.mono b)
  | _, _, _, i + 1, x, .hole r => .hole (RG.lose i x r)
  | _, _, _, i + 1, x, .full h r s a b => .full h (RG.lose i x r) s a b
theorem RK.split {σ : SS} : ∀ {as bs : List E} {vs : List V} {M : AP}, RK K H T σ (as ++ bs) vs M → ∃ (us ws : List V) (M1 M2 : AP), vs = us ++ ws ∧ RK K H T σ as us M1 ∧ RK K H T σ bs ws M2 ∧ Sep M1 M2 ∧ Le M1 M ∧ Le M2 M
  | [], _, vs, M, h => ⟨[], vs, No, M, rfl, .nil, h, Sep.no, Le.no, Le.rfl⟩
  | .b i :: as, _, _, M, h => by
    cases h with
    | nm e r =>
      obtain ⟨us, ws, M1, M2, rfl, h1, h2, h3, h4, h5⟩ := RK.split r
      exact ⟨_ :: us, ws, M1, M2, rfl, .nm e h1, h2, h3, h4, h5⟩
    | cons h _ _ _ _ => cases h
  | .p x :: as, _, _, M, h => by
    cases h with
    | cons h r s a b =>
      obtain ⟨us, ws, M1, M2, rfl, h1, h2, h3, h4, h5⟩ := RK.split r
      exact ⟨_ :: us, ws, _, M2, rfl, .cons h h1 (s.mono Le.rfl h4) Le.inl Le.inr, h2, (s.mono Le.rfl h5).u h3, Le.u a (h4.trans b), h5.trans b⟩
  | .o x :: as, _, _, M, h => by
    cases h with
    | cons h r s a b =>
      obtain ⟨us, ws, M1, M2, rfl, h1, h2, h3, h4, h5⟩ := RK.split r
      exact ⟨_ :: us, ws, _, M2, rfl, .cons h h1 (s.mono Le.rfl h4) Le.inl Le.inr, h2, (s.mono Le.rfl h5).u h3, Le.u a (h4.trans b), h5.trans b⟩
  | .s x :: as, _, _, M, h => by
    cases h with
    | cons h r s a b =>
      obtain ⟨us, ws, M1, M2, rfl, h1, h2, h3, h4, h5⟩ := RK.split r
      exact ⟨_ :: us, ws, _, M2, rfl, .cons h h1 (s.mono Le.rfl h4) Le.inl Le.inr, h2, (s.mono Le.rfl h5).u h3, Le.u a (h4.trans b), h5.trans b⟩
theorem RK.join {σ : SS} : ∀ {as bs : List E} {us ws : List V} {M1 M2 M : AP}, RK K H T σ as us M1 → RK K H T σ bs ws M2 → Sep M1 M2 → Le M1 M → Le M2 M → RK K H T σ (as ++ bs) (us ++ ws) M
  | _, _, _, _, _, _, _, .nil, h, _, _, l => h.mono l
  | _, _, _, _, _, _, _, .nm e r, h, s, l1, l2 => .nm e (RK.join r h s l1 l2)
  | _, _, _, _, _, M2, M, .cons (M := M') hs r sp a b, h, s, l1, l2 =>
    .cons hs (RK.join (M := U M' M2) r h (s.mono b Le.rfl) Le.inl Le.inr) (Sep.ur sp (s.mono a Le.rfl)) (a.trans l1) (Le.u (b.trans l1) l2)
theorem RK.length {σ : SS} : ∀ {es : List E} {vs : List V} {M : AP}, RK K H T σ es vs M → es.length = vs.length
  | _, _, _, .nil => rfl
  | _, _, _, .nm _ r => by simp [RK.length r]
  | _, _, _, .cons _ r _ _ _ => by simp [RK.length r]
theorem RK.rev {σ : SS} : ∀ {es : List E} {vs : List V} {M : AP}, RK K H T σ es vs M → RK K H T σ es.reverse vs.reverse M
  | _, _, _, .nil => .nil
  | _, _, M, .nm e r => by
    rw [List.reverse_cons, List.reverse_cons]
    exact RK.join (RK.rev r) (.nm e .nil) Sep.nor Le.rfl Le.no
  | _, _, M, .cons h r s a b => by
    rw [List.reverse_cons, List.reverse_cons]
    exact RK.join (RK.rev r) (.cons (N := _) (M := No) h .nil Sep.nor Le.rfl Le.no) s.symm b a
end

/-- the base of a frame: the heap at its entry, what it owned, what was shared, slots that are never stored -/
structure Base where
  H : Hp
  M : AP
  T : AP
  prot : List (Nat × V)
/-- a list or a dict stands there -/
def MutE (H : Hp) (a : Addr) : Prop := (∃ xs, H a = some (.lst xs)) ∨ ∃ ps, H a = some (.dK ps)
theorem MutE.ne {H : Hp} {a : Addr} (h : MutE H a) : H a ≠ none := by
  rcases h with ⟨_, h⟩ | ⟨_, h⟩ <;> (rw [h]; simp)
/-- the tables of code objects, in which a def finds its lambdas; one choice for a law -/
class Tbl where
  t : List (Addr × Str)
variable [Tbl]
/-- no table -/
abbrev NT (o : HO) : Prop := ∀ ps, o ≠ .tbl ps
theorem MutE.nt {H : Hp} {a : Addr} {o : HO} (h : MutE H a) (e : H a = some o) : NT o := fun ps z => by
  subst z
  rcases h with ⟨_, h⟩ | ⟨_, h⟩ <;> (rw [h] at e; cases e)
theorem tabs_upd {T : List (Addr × Str)} {H : Hp} {p : Addr} {o : HO} (t : LamX.Tabs T H) (hp : H p = none ∨ MutE H p) : LamX.Tabs T (upd H p o) := fun q hq => by
  obtain ⟨ps, h1, h2, h3⟩ := t q hq
  have ne : ∀ {a : Addr} {u : HO}, H a = some u → (∀ xs, u ≠ .lst xs) → (∀ xs, u ≠ .dK xs) → upd H p o a = some u := fun {a u} e n1 n2 => by
    rw [upd_ne]; exact e
    rintro rfl
    rcases hp with hp | ⟨_, hp⟩ | ⟨_, hp⟩ <;> rw [hp] at e <;> cases e
    · exact n1 _ rfl
    · exact n2 _ rfl
  refine ⟨ps, ne h1 (fun _ z => by cases z) (fun _ z => by cases z), h2, fun pos cv hc => ?_⟩
  obtain ⟨c, e1, e2⟩ := h3 pos cv hc
  exact ⟨c, e1, ne e2 (fun _ z => by unfold LamX.CodeO at z; cases z) (fun _ z => by unfold LamX.CodeO at z; cases z)⟩
/-- nothing but a table may stand there -/
def NN (H : Hp) (a : Addr) : Prop := ∀ o, NT o → H a ≠ some o
theorem nn_none {H : Hp} {a : Addr} (h : H a = none) : NN H a := fun o _ e => by rw [h] at e; cases e
theorem MutE.nn {H : Hp} {a : Addr} (h : MutE H a) : ¬ NN H a := fun n => by
  rcases h with ⟨_, h⟩ | ⟨_, h⟩ <;> exact n _ (fun _ z => by cases z) h
structure BaseOk (B : Base) (H : Hp) (M T : AP) : Prop where
  keep : ∀ a o, NT o → B.H a = some o → ¬ B.M a → H a = some o
  old : ∀ a, NN H a → NN B.H a
  own : ∀ a, M a → B.M a ∨ NN B.H a
  shr : ∀ a, T a → B.M a ∨ B.T a ∨ NN B.H a
  live : ∀ a, M a → MutE H a
  liveT : ∀ a, T a → MutE H a
  tabs : LamX.Tabs Tbl.t H
structure Rel (K : PySem.W.Frag) (B : Base) (Γ : G) (stk : List E) (σ : SS) (svs : List V) (H : Hp) : Prop where
  ex : ∃ M N T : AP, RG K H T Γ σ M ∧ RK K H T σ stk svs N ∧ Sep M N ∧ Sep (U M N) T ∧ BaseOk B H (U M N) T
  prot : ∀ q ∈ B.prot, σ[q.1]? = some (some q.2)
section
variable {K : PySem.W.Frag} {B : Base} {Γ : G} {stk : List E} {σ : SS} {svs : List V} {H : Hp}
theorem BaseOk.mono {M T M' T' : AP} (b : BaseOk B H M T) (l : Le M' M) (t : Le T' T) : BaseOk B H M' T' :=
  ⟨b.keep, b.old, fun a h => b.own a (l a h), fun a h => b.shr a (t a h), fun a h => b.live a (l a h), fun a h => b.liveT a (t a h), b.tabs⟩
/-- what is at hand is thrown away -/
theorem Rel.popE {e : E} {v : V} (r : Rel K B Γ (e :: stk) σ (v :: svs) H) : Rel K B Γ stk σ svs H := by
  obtain ⟨M, N, T, h1, h2, h3, h4, h5⟩ := r.ex
  refine ⟨?_, r.prot⟩
  cases h2 with
  | nm e q => exact ⟨M, N, T, h1, q, h3, h4, h5⟩
  | cons h q s a b => exact ⟨M, _, T, h1, q, h3.mono Le.rfl b, h4.mono (Le.u Le.inl (b.trans Le.inr)) Le.rfl, h5.mono (Le.u Le.inl (b.trans Le.inr)) Le.rfl⟩
/-- an unchanging value comes to hand -/
theorem Rel.pushP {x : P} {v : V} (r : Rel K B Γ stk σ svs H) (h : RP K H x v) : Rel K B Γ (.p x :: stk) σ (v :: svs) H := by
  obtain ⟨M, N, T, h1, h2, h3, h4, h5⟩ := r.ex
  exact ⟨⟨M, N, T, h1, .cons (m := No) (.p h) h2 Sep.no Le.no Le.rfl, h3, h4, h5⟩, r.prot⟩
theorem Rel.top {e : E} {v : V} (r : Rel K B Γ (e :: stk) σ (v :: svs) H) : (∃ T m, RS K H T e v m) ∨ ∃ i, e = .b i ∧ σ[i]? = some (some v) := by
  obtain ⟨M, N, T, h1, h2, h3, h4, h5⟩ := r.ex
  cases h2 with
  | nm e q => exact .inr ⟨_, rfl, e⟩
  | cons h q s a b => exact .inl ⟨T, _, h⟩
theorem Rel.topP {x : P} {v : V} (r : Rel K B Γ (.p x :: stk) σ (v :: svs) H) : RP K H x v := by
  rcases r.top with ⟨T, m, h⟩ | ⟨i, e, _⟩
  · cases h with
    | p h => exact h
  · cases e
theorem Rel.slot {i : Nat} {e : E} (r : Rel K B Γ stk σ svs H) (h : Γ[i]? = some (some e)) : ∃ v T m, σ[i]? = some (some v) ∧ RS K H T e v m := by
  obtain ⟨M, N, T, h1, h2, h3, h4, h5⟩ := r.ex
  obtain ⟨v, m, R, a, b, _⟩ := h1.get h
  exact ⟨v, T, m, a, b⟩
/-- a slot's value is read: unchanging, shared -/
theorem Rel.readP {i : Nat} {x : P} (r : Rel K B Γ stk σ svs H) (h : Γ[i]? = some (some (.p x))) : ∃ v, σ[i]? = some (some v) ∧ Rel K B Γ (.p x :: stk) σ (v :: svs) H := by
  obtain ⟨v, T, m, a, b⟩ := r.slot h
  cases b with
  | p b => exact ⟨v, a, r.pushP b⟩
theorem Rel.readS {i : Nat} {d : D} (r : Rel K B Γ stk σ svs H) (h : Γ[i]? = some (some (.s d))) : ∃ v, σ[i]? = some (some v) ∧ Rel K B Γ (.s d :: stk) σ (v :: svs) H := by
  obtain ⟨M, N, T, h1, h2, h3, h4, h5⟩ := r.ex
  obtain ⟨v, m, R, a, b, _⟩ := h1.get h
  cases b with
  | s b => exact ⟨v, a, ⟨M, N, T, h1, .cons (m := No) (.s b) h2 Sep.no Le.no Le.rfl, h3, h4, h5⟩, r.prot⟩
/-- .. owned: it is named -/
theorem Rel.readO {i : Nat} {d : D} (r : Rel K B Γ stk σ svs H) (h : Γ[i]? = some (some (.o d))) : ∃ v, σ[i]? = some (some v) ∧ Rel K B Γ (.b i :: stk) σ (v :: svs) H := by
  obtain ⟨M, N, T, h1, h2, h3, h4, h5⟩ := r.ex
  obtain ⟨v, m, R, a, b, _⟩ := h1.get h
  exact ⟨v, a, ⟨M, N, T, h1, .nm a h2, h3, h4, h5⟩, r.prot⟩
/-- a named one is taken out of its slot -/
theorem Rel.move {i : Nat} {d : D} {v : V} (r : Rel K B Γ (.b i :: stk) σ (v :: svs) H) (h : Γ[i]? = some (some (.o d))) : Rel K B (Γ.set i none) (.o d :: stk) σ (v :: svs) H := by
  obtain ⟨M, N, T, h1, h2, h3, h4, h5⟩ := r.ex
  obtain ⟨v', m, R, a, b, s, l1, l2, g, _⟩ := h1.get h
  cases h2 with
  | nm e q =>
    rw [a] at e; cases e
    have hN : Sep m N := h3.mono l1 Le.rfl
    refine ⟨⟨R, U m N, T, g, .cons b q hN Le.inl Le.inr, s.symm.ur (h3.mono l2 Le.rfl), ?_, ?_⟩, r.prot⟩
    · exact h4.mono (Le.u (l2.trans Le.inl) (Le.u (l1.trans Le.inl) Le.inr)) Le.rfl
    · exact h5.mono (Le.u (l2.trans Le.inl) (Le.u (l1.trans Le.inl) Le.inr)) Le.rfl
  | cons h _ _ _ _ => cases h
/-- .. becomes shared -/
theorem Rel.share {i : Nat} {d : D} {v : V} (r : Rel K B Γ (.b i :: stk) σ (v :: svs) H) (h : Γ[i]? = some (some (.o d))) : Rel K B (Γ.set i (some (.s d))) (.s d :: stk) σ (v :: svs) H := by
  obtain ⟨M, N, T, h1, h2, h3, h4, h5⟩ := r.ex
  obtain ⟨v', m, R, a, b, s, l1, l2, _, put⟩ := h1.get h
  cases h2 with
  | nm e q =>
    rw [a] at e; cases e
    cases b with
    | o b =>
      have g := put H (U m T) (.s d) No (.s (b.mono Le.inl)) Kp.refl Le.inr Sep.no
      refine ⟨⟨_, N, U m T, g, .cons (m := No) (.s (b.mono Le.inl)) (q.tmono Le.inr) Sep.no Le.no Le.rfl, (Sep.no.u (h3.mono l2 Le.rfl)), ?_, ?_⟩, r.prot⟩
      · refine Sep.u (Sep.u Sep.no ?_) ?_
        · exact Sep.ur s.symm (h4.mono (l2.trans Le.inl) Le.rfl)
        · exact Sep.ur (h3.symm.mono Le.rfl l1) (h4.mono Le.inr Le.rfl)
      · refine ⟨h5.keep, h5.old, fun c z => ?_, fun c z => ?_, fun c z => ?_, fun c z => ?_, h5.tabs⟩
        · rcases z with (z | z) | z
          · exact z.elim
          · exact h5.own c (.inl (l2 c z))
          · exact h5.own c (.inr z)
        · rcases z with z | z
          · exact (h5.own c (.inl (l1 c z))).imp_right .inr
          · exact h5.shr c z
        · rcases z with (z | z) | z
          · exact z.elim
          · exact h5.live c (.inl (l2 c z))
          · exact h5.live c (.inr z)
        · rcases z with z | z
          · exact h5.live c (.inl (l1 c z))
          · exact h5.liveT c z
  | cons h _ _ _ _ => cases h
/-- owned things at hand become shared -/
theorem Rel.shareO {d : D} {v : V} (r : Rel K B Γ (.o d :: stk) σ (v :: svs) H) : Rel K B Γ (.s d :: stk) σ (v :: svs) H := by
  obtain ⟨M, N, T, h1, h2, h3, h4, h5⟩ := r.ex
  cases h2 with
  | cons h q s a b =>
    rename_i m N'
    cases h with
    | o h =>
      refine ⟨⟨M, N', U m T, h1.tmono Le.inr, .cons (m := No) (.s (h.mono Le.inl)) (q.tmono Le.inr) Sep.no Le.no Le.rfl, h3.mono Le.rfl b, ?_, ?_⟩, r.prot⟩
      · refine Sep.u (Sep.ur (h3.mono Le.rfl a) (h4.mono Le.inl Le.rfl)) (Sep.ur s.symm (h4.mono (b.trans Le.inr) Le.rfl))
      · refine ⟨h5.keep, h5.old, fun c z => h5.own c (z.imp_right (b c)), fun c z => ?_, fun c z => h5.live c (z.imp_right (b c)), fun c z => ?_, h5.tabs⟩
        · rcases z with z | z
          · exact (h5.own c (.inr (a c z))).imp_right .inr
          · exact h5.shr c z
        · rcases z with z | z
          · exact h5.live c (.inr (a c z))
          · exact h5.liveT c z
/-- what is at hand is stored in a slot -/
theorem Rel.store {i : Nat} {e : E} {v : V} (r : Rel K B Γ (e :: stk) σ (v :: svs) H) (hb : ∀ j, e ≠ .b j) (hs : ∀ j, E.b j ∉ stk) (hp : ∀ q ∈ B.prot, q.1 ≠ i) : Rel K B (Γ.set i (some e)) stk (σ.set i (some v)) svs H := by
  obtain ⟨M, N, T, h1, h2, h3, h4, h5⟩ := r.ex
  have res : ∀ {stk : List E} {svs : List V} {N : AP}, (∀ j, E.b j ∉ stk) → RK K H T σ stk svs N → RK K H T (σ.set i (some v)) stk svs N := by
    intro stk svs N hs q
    induction q with
    | nil => exact .nil
    | nm e _ _ => exact absurd List.mem_cons_self (hs _)
    | cons h _ s a b ih => exact .cons h (ih fun j z => hs j (List.mem_cons_of_mem _ z)) s a b
  refine ⟨?_, fun q hq => ?_⟩
  · cases h2 with
    | nm e q => exact absurd rfl (hb _)
    | cons h q s a b =>
      rename_i m N'
      refine ⟨U m M, N', T, h1.put h (h3.symm.mono a Le.rfl), res hs q, s.u (h3.mono Le.rfl b), ?_, ?_⟩
      · exact h4.mono (Le.u (Le.u (a.trans Le.inr) Le.inl) (b.trans Le.inr)) Le.rfl
      · exact h5.mono (Le.u (Le.u (a.trans Le.inr) Le.inl) (b.trans Le.inr)) Le.rfl
  · rw [List.getElem?_set_ne (Ne.symm (hp q hq))]
    exact r.prot q hq
end
end Kv

set_option Elab.async false
set_option linter.all false
set_option maxRecDepth 100000
set_option maxHeartbeats 2000000
set_option autoImplicit false
/-! Kv, part C: new objects, objects changed in place, a frame entered and left. -/
namespace Kv
open PySem PySem.Spec L2
variable [Tbl]

def allP : List E → Option (List P)
  | [] => some []
  | .p x :: r => (allP r).map (x :: ·)
  | _ :: _ => none
def gat : List E → Option (List D)
  | [] => some []
  | .p x :: r => (gat r).map (.p x :: ·)
  | .o d :: r => (gat r).map (d :: ·)
  | _ :: _ => none
theorem allP_nil : allP [] = some [] := rfl
theorem allP_p (x : P) (r : List E) : allP (.p x :: r) = (allP r).map (x :: ·) := rfl
theorem allP_map (xs : List P) : allP (xs.map .p) = some xs := by
  induction xs with
  | nil => rfl
  | cons x xs ih => simp [allP, ih]
theorem allP_app {as bs : List E} {xs ys : List P} (h1 : allP as = some xs) (h2 : allP bs = some ys) : allP (as ++ bs) = some (xs ++ ys) := by
  induction as generalizing xs with
  | nil => cases h1; simpa using h2
  | cons a as ih =>
    cases a with
    | p x =>
      rw [allP_p] at h1
      cases h : allP as with
      | none => rw [h] at h1; cases h1
      | some zs =>
        rw [h] at h1; cases h1
        show (allP (as ++ bs)).map (x :: ·) = _
        rw [ih h]; rfl
    | _ => cases h1
section
variable {K : PySem.W.Frag} {H H' : Hp} {T : AP} {σ : SS}
theorem RK.allP {es : List E} {vs : List V} {M : AP} {ps : List P} (h : RK K H T σ es vs M) (e : allP es = some ps) : RPs K H ps vs := by
  induction h generalizing ps with
  | nil => cases e; exact .nil
  | nm _ _ _ => cases e
  | cons h r s a b ih =>
    cases h with
    | p h =>
      rw [allP_p] at e
      rename_i es' _ _ _ _ _
      cases q : Kv.allP es' with
      | none => rw [q] at e; cases e
      | some zs => rw [q] at e; cases e; exact .cons h (ih q)
    | o h => cases e
    | s h => cases e
theorem RK.gat {es : List E} {vs : List V} {M : AP} {ds : List D} (h : RK K H T σ es vs M) (e : gat es = some ds) : RDs K H ds vs M := by
  induction h generalizing ds with
  | nil => cases e; exact .nil
  | nm _ _ _ => cases e
  | cons h r s a b ih =>
    rename_i es' _ _ _ _
    cases h with
    | p h =>
      have e : (Kv.gat es').map (D.p _ :: ·) = some ds := e
      cases q : Kv.gat es' with
      | none => rw [q] at e; cases e
      | some zs => rw [q] at e; cases e; exact .cons (F := No) (.p h) (ih q) Sep.no Le.no b
    | o h =>
      have e : (Kv.gat es').map (_ :: ·) = some ds := e
      cases q : Kv.gat es' with
      | none => rw [q] at e; cases e
      | some zs => rw [q] at e; cases e; exact .cons h (ih q) s a b
    | s h => cases e
theorem kp_new {F : AP} {p : Addr} {o : HO} (h : H p = none) : Kp F H (upd H p o) :=
  .same fun a u e => by rw [upd_ne (ne_of_none e h)]; exact e
theorem kp_upd {F : AP} {a : Addr} {o : HO} (hm : (∃ xs, H a = some (.lst xs)) ∨ ∃ ps, H a = some (.dK ps)) (hF : ¬ F a) : Kp F H (upd H a o) := by
  refine ⟨fun b u f e => ?_, fun b xs e => ?_, fun b ob u e => ?_⟩
  · rw [upd_ne]; exact e
    rintro rfl; exact hF f
  · rw [upd_ne]; exact e
    rintro rfl
    rcases hm with ⟨_, h⟩ | ⟨_, h⟩ <;> (rw [h] at e; cases e)
  · rw [upd_ne]; exact e
    rintro rfl
    rcases hm with ⟨_, h⟩ | ⟨_, h⟩ <;> (rw [h] at e; cases e)
end
section
variable {K : PySem.W.Frag} {B : Base} {Γ : G} {stk : List E} {σ : SS} {svs : List V} {H : Hp}
theorem Rel.lens {es : List E} {vs : List V} (r : Rel K B Γ (es.reverse ++ stk) σ (vs.reverse ++ svs) H) (hl : stk.length = svs.length) : es.length = vs.length := by
  obtain ⟨M, N, T, h1, h2, _⟩ := r.ex
  have := h2.length
  simp only [List.length_append, List.length_reverse] at this
  omega
theorem Rel.slen (r : Rel K B Γ stk σ svs H) : stk.length = svs.length := by
  obtain ⟨M, N, T, h1, h2, _⟩ := r.ex
  exact h2.length
theorem RK.front {T N : AP} {es : List E} {vs : List V} (h2 : RK K H T σ (es.reverse ++ stk) (vs.reverse ++ svs) N) (hl : es.length = vs.length) :
    ∃ M1 M2 : AP, RK K H T σ es vs M1 ∧ RK K H T σ stk svs M2 ∧ Sep M1 M2 ∧ Le M1 N ∧ Le M2 N := by
  obtain ⟨us, ws, M1, M2, e, h3, h4, h5, h6, h7⟩ := RK.split h2
  have l3 := h3.length
  have : vs.reverse = us ∧ svs = ws := List.append_inj e (by simp only [List.length_reverse] at l3 ⊢; omega)
  obtain ⟨rfl, rfl⟩ := this
  have h3' := h3.rev
  rw [List.reverse_reverse, List.reverse_reverse] at h3'
  exact ⟨M1, M2, h3', h4, h5, h6, h7⟩
theorem mutE_upd {H : Hp} {p : Addr} {ob : HO} {a : Addr} (hob : (∃ xs, ob = .lst xs) ∨ ∃ ps, ob = .dK ps) (h : MutE H a) : MutE (upd H p ob) a := by
  unfold MutE upd
  split
  · rcases hob with ⟨xs, rfl⟩ | ⟨ps, rfl⟩
    · exact .inl ⟨xs, rfl⟩
    · exact .inr ⟨ps, rfl⟩
  · exact h
theorem mutE_new {H : Hp} {p : Addr} {ob : HO} {a : Addr} (hp : H p = none) (h : MutE H a) : MutE (upd H p ob) a := by
  rcases h with ⟨_, h⟩ | ⟨_, h⟩
  · exact .inl ⟨_, by rw [upd_ne (ne_of_none h hp)]; exact h⟩
  · exact .inr ⟨_, by rw [upd_ne (ne_of_none h hp)]; exact h⟩
/-- a new object, made of what is at hand; F: it itself, where it may change -/
theorem Rel.alloc {es : List E} {vs : List V} {p : Addr} {ob : HO} {e : E} {F : AP} (r : Rel K B Γ (es.reverse ++ stk) σ (vs.reverse ++ svs) H) (hl : es.length = vs.length) (hp : H p = none)
    (hF : ∀ a, F a → a = p ∧ ((∃ xs, ob = .lst xs) ∨ ∃ ps, ob = .dK ps))
    (he : ∀ M1 T, RK K H T σ es vs M1 → ¬ M1 p → RS K (upd H p ob) T e (.ref p) (U F M1)) : Rel K B Γ (e :: stk) σ (.ref p :: svs) (upd H p ob) := by
  obtain ⟨M, N, T, h1, h2, h3, h4, h5⟩ := r.ex
  obtain ⟨M1, M2, q1, q2, q3, q4, q5⟩ := RK.front h2 hl
  have pM : ¬ (U M N) p := fun z => (h5.live p z).ne hp
  have pT : ¬ T p := fun z => (h5.liveT p z).ne hp
  have pe : ∀ {G' : AP}, Le G' (U M N) → Sep F G' := fun l a z f => pM ((hF a z).1 ▸ l _ f)
  refine ⟨⟨M, U (U F M1) M2, T, h1.kp (kp_new hp), .cons (he M1 T q1 fun z => pM (.inr (q4 _ z))) (q2.kp (kp_new hp)) ?_ Le.inl Le.inr, ?_, ?_, ?_⟩, r.prot⟩
  · exact Sep.u (pe (q5.trans Le.inr)) q3
  · exact Sep.ur (Sep.ur (pe Le.inl).symm (h3.mono Le.rfl q4)) (h3.mono Le.rfl q5)
  · refine Sep.u (h4.mono Le.inl Le.rfl) (Sep.u (Sep.u ?_ (h4.mono (q4.trans Le.inr) Le.rfl)) (h4.mono (q5.trans Le.inr) Le.rfl))
    intro a z t; exact pT ((hF a z).1 ▸ t)
  · have nn : ∀ a, H a ≠ none → upd H p ob a ≠ none := fun a h => by
      unfold upd; split
      · simp
      · exact h
    refine ⟨fun a o nt e f => ?_, fun a z => ?_, fun a z => ?_, h5.shr, fun a z => ?_, fun a z => mutE_new hp (h5.liveT a z), tabs_upd h5.tabs (.inl hp)⟩
    · have := h5.keep a o nt e f
      rw [upd_ne (ne_of_none this hp)]; exact this
    · refine h5.old a fun o nt e => ?_
      exact z o nt (by rw [upd_ne (ne_of_none e hp)]; exact e)
    · rcases z with z | (z | z) | z
      · exact h5.own a (.inl z)
      · exact .inr ((hF a z).1 ▸ h5.old _ (nn_none hp))
      · exact h5.own a (.inr (q4 a z))
      · exact h5.own a (.inr (q5 a z))
    · rcases z with z | (z | z) | z
      · exact mutE_new hp (h5.live a (.inl z))
      · obtain ⟨rfl, h | h⟩ := hF a z
        · obtain ⟨xs, rfl⟩ := h; exact .inl ⟨xs, upd_same⟩
        · obtain ⟨xs, rfl⟩ := h; exact .inr ⟨xs, upd_same⟩
      · exact mutE_new hp (h5.live a (.inr (q4 a z)))
      · exact mutE_new hp (h5.live a (.inr (q5 a z)))
theorem Rel.newTupP {es : List E} {vs : List V} {p : Addr} {ps : List P} (r : Rel K B Γ (es.reverse ++ stk) σ (vs.reverse ++ svs) H) (hl : es.length = vs.length) (hp : H p = none) (e : allP es = some ps) {o : Obj} (ho : o.dict = none) :
    Rel K B Γ (.p (.tup ps) :: stk) σ (.ref p :: svs) (upd H p (.frz o (.tup vs))) :=
  r.alloc (F := No) hl hp (fun _ z => z.elim) fun M1 T q _ => .p (.tup (.inl ⟨o, upd_same, ho⟩) ((q.allP e).kp (kp_new (F := No) hp)))
theorem Rel.newTupD {es : List E} {vs : List V} {p : Addr} {ds : List D} (r : Rel K B Γ (es.reverse ++ stk) σ (vs.reverse ++ svs) H) (hl : es.length = vs.length) (hp : H p = none) (e : gat es = some ds) {o : Obj} (ho : o.dict = none) :
    Rel K B Γ (.o (.tup ds) :: stk) σ (.ref p :: svs) (upd H p (.frz o (.tup vs))) :=
  r.alloc (F := No) hl hp (fun _ z => z.elim) fun M1 T q _ => .o (.tup (.inl ⟨o, upd_same, ho⟩) (((q.gat e).kp (kp_new hp)).mono Le.inr))
theorem Rel.newLst {es : List E} {vs : List V} {p : Addr} {ds : List D} (r : Rel K B Γ (es.reverse ++ stk) σ (vs.reverse ++ svs) H) (hl : es.length = vs.length) (hp : H p = none) (e : gat es = some ds) :
    Rel K B Γ (.o (.lst ds) :: stk) σ (.ref p :: svs) (upd H p (.lst vs)) :=
  r.alloc (F := fun a => a = p) hl hp (fun _ z => ⟨z, .inl ⟨_, rfl⟩⟩) fun M1 T q n => .o (.lst upd_same ((q.gat e).kp (kp_new hp)) Le.inr (.inl rfl) n)
/-- a list of unchanging things, made by the way -/
theorem Rel.newLstP {p : Addr} {ps : List P} {vs : List V} (r : Rel K B Γ stk σ svs H) (hp : H p = none) (h : RPs K H ps vs) : Rel K B Γ (.o (.lst (ps.map .p)) :: stk) σ (.ref p :: svs) (upd H p (.lst vs)) :=
  Rel.alloc (es := []) (vs := []) (F := fun a => a = p) r rfl hp (fun _ z => ⟨z, .inl ⟨_, rfl⟩⟩) fun M1 T q n => .o (.lst (G := No) upd_same (.ofP (h.kp (kp_new (F := No) hp))) Le.no (.inl rfl) fun z => z)
theorem Rel.newTup {p : Addr} {ps : List P} {vs : List V} (r : Rel K B Γ stk σ svs H) (hp : H p = none) (h : RPs K H ps vs) {o : Obj} (ho : o.dict = none) : Rel K B Γ (.p (.tup ps) :: stk) σ (.ref p :: svs) (upd H p (.frz o (.tup vs))) :=
  Rel.alloc (es := []) (vs := []) (F := No) r rfl hp (fun _ z => z.elim) fun M1 T q n => .p (.tup (.inl ⟨o, upd_same, ho⟩) (h.kp (kp_new (F := No) hp)))
/-- an object of a slot's own is changed in place: a, within what the slot owns -/
theorem Rel.mutate {es : List E} {vs : List V} {i : Nat} {d : D} {x : V} (r : Rel K B Γ (es.reverse ++ (.b i :: stk)) σ (vs.reverse ++ (x :: svs)) H) (hl : es.length = vs.length) (hi : Γ[i]? = some (some (.o d))) :
    ∃ m M1 T : AP, RD K H d x m ∧ RK K H T σ es vs M1 ∧ Sep m M1 ∧
      ∀ (a : Addr) (ob : HO) (d' : D) (m' : AP) (es' : List E) (ws : List V) (M2 : AP), m a → ((∃ xs, ob = .lst xs) ∨ ∃ ps, ob = .dK ps) → RD K (upd H a ob) d' x m' → RK K (upd H a ob) T σ es' ws M2 →
        Sep m' M2 → Le m' (U m M1) → Le M2 (U m M1) → Rel K B (Γ.set i (some (.o d'))) (es' ++ stk) σ (ws ++ svs) (upd H a ob) := by
  obtain ⟨M, N, T, h1, h2, h3, h4, h5⟩ := r.ex
  obtain ⟨M1, M2, q1, q2, q3, q4, q5⟩ := RK.front h2 hl
  obtain ⟨v', m, R, e, b, s, l1, l2, _, put⟩ := h1.get hi
  cases q2 with
  | cons h _ _ _ _ => cases h
  | nm e' q2 =>
    rw [e] at e'; cases e'
    cases b with
    | o b =>
      refine ⟨m, M1, T, b, q1, h3.mono l1 q4, fun a ob d' m' es' ws M3 ha hm hd hk hs hl1 hl2 => ?_⟩
      have hob := hm
      replace hm : MutE H a := h5.live a (.inl (l1 a ha))
      have nR : ¬ (U R T) a := fun z => z.elim (s a ha) fun t => h4 a (.inl (l1 a ha)) t
      have nK : ¬ (U M2 T) a := fun z => z.elim (fun z => h3 a (l1 a ha) (q5 a z)) fun t => h4 a (.inl (l1 a ha)) t
      have big : Le (U m M1) (U M N) := Le.u (l1.trans Le.inl) (q4.trans Le.inr)
      have sR : Sep (U m M1) R := Sep.u s (h3.symm.mono q4 l2)
      have g := put (upd H a ob) T (.o d') m' (.o hd) (kp_upd hm nR) Le.rfl (sR.mono hl1 Le.rfl)
      have sK : Sep (U m M1) M2 := Sep.u (h3.mono l1 q5) q3
      refine ⟨⟨U m' R, U M3 M2, T, g, hk.join (q2.kp (kp_upd hm nK)) (sK.mono hl2 Le.rfl) Le.inl Le.inr, ?_, ?_, ?_⟩, r.prot⟩
      · exact Sep.u (Sep.ur hs (sK.mono hl1 Le.rfl)) (Sep.ur (sR.symm.mono Le.rfl hl2) (h3.mono l2 q5))
      · exact h4.mono (Le.u (Le.u (hl1.trans big) (l2.trans Le.inl)) (Le.u (hl2.trans big) (q5.trans Le.inr))) Le.rfl
      · have all : Le (U (U m' R) (U M3 M2)) (U M N) := Le.u (Le.u (hl1.trans big) (l2.trans Le.inl)) (Le.u (hl2.trans big) (q5.trans Le.inr))
        have nn : ∀ c, H c ≠ none → upd H a ob c ≠ none := fun c h => by
          unfold upd; split
          · simp
          · exact h
        refine ⟨fun c o nt z f => ?_, fun c z => ?_, fun c z => h5.own c (all c z), h5.shr, fun c z => mutE_upd hob (h5.live c (all c z)), fun c z => mutE_upd hob (h5.liveT c z), tabs_upd h5.tabs (.inr hm)⟩
        · have k := h5.keep c o nt z f
          rw [upd_ne]; exact k
          rintro rfl
          rcases h5.own c (.inl (l1 c ha)) with w | w
          · exact f w
          · exact w o nt z
        · refine h5.old c fun o nt e => ?_
          by_cases hca : c = a
          · subst hca
            rcases hob with ⟨xs, rfl⟩ | ⟨xs, rfl⟩
            · exact z _ (fun _ q => by cases q) upd_same
            · exact z _ (fun _ q => by cases q) upd_same
          · exact z o nt (by rw [upd_ne hca]; exact e)
end
end Kv

set_option Elab.async false
set_option linter.all false
set_option maxRecDepth 100000
set_option maxHeartbeats 2000000
set_option autoImplicit false
/-! Kv, part D: what a piece of code makes of slots and data (Rs), its reading (tE, tA, tT), the rules for expressions. -/
namespace Kv
open PySem PySem.Spec L2
variable [Tbl]

/-- an own error: the name of its class, its numbers -/
structure Exn where
  cls : Str
  arg : List P
inductive Rs (α : Type) where
  | ok (Γ : G) (a : α) | ex (c : Exn) | bad
def Rs.sat {α : Type} (r : Rs α) (k : G → α → Prop) (x : Exn → Prop) : Prop := match r with
  | .ok Γ a => k Γ a
  | .ex c => x c
  | .bad => False
def Rs.bind {α β : Type} (r : Rs α) (k : G → α → Rs β) : Rs β := match r with
  | .ok Γ a => k Γ a
  | .ex c => .ex c
  | .bad => .bad
@[simp] theorem Rs.bind_ok {α β : Type} (Γ : G) (a : α) (k : G → α → Rs β) : Rs.bind (.ok Γ a) k = k Γ a := rfl
@[simp] theorem Rs.bind_ex {α β : Type} (c : Exn) (k : G → α → Rs β) : Rs.bind (.ex c) k = .ex c := rfl
@[simp] theorem Rs.bind_bad {α β : Type} (k : G → α → Rs β) : Rs.bind (.bad : Rs α) k = .bad := rfl
theorem Rs.sat_bind {α β : Type} {r : Rs α} {k : G → α → Rs β} {q : G → β → Prop} {x : Exn → Prop} : (r.bind k).sat q x ↔ r.sat (fun Γ a => (k Γ a).sat q x) x := by
  cases r <;> exact Iff.rfl
theorem Rs.sat_mono {α : Type} {r : Rs α} {q q' : G → α → Prop} {x x' : Exn → Prop} (h : r.sat q x) (hq : ∀ Γ a, q Γ a → q' Γ a) (hx : ∀ c, x c → x' c) : r.sat q' x' := by
  cases r with
  | ok Γ a => exact hq _ _ h
  | ex c => exact hx _ h
  | bad => exact h
abbrev X1 := G → Rs E
abbrev X2 := G → Rs (List E)
abbrev XB := G → Rs Bool

/-- how the heap stands where an error leaves -/
def XKeep (B : Base) (H' : Hp) : Prop := (∀ a o, NT o → B.H a = some o → ¬ B.M a → H' a = some o) ∧ (∀ a, NN H' a → NN B.H a) ∧ LamX.Tabs Tbl.t H'
/-- how an own error lies -/
def ExP (mg : Str → Option Value) (c : Exn) (cls : Value) (d : Option Addr) (H' : Hp) : Prop := mg c.cls = some cls ∧ match c.arg with
  | [] => True
  | _ => False
def ExW (mg : Str → Option Value) (B : Base) (W : XK) (c : Exn) : Prop := ∀ cls d H', ExP mg c cls d H' → XKeep B H' → W cls d H'

section
variable (K : PySem.W.Frag) (mg : Str → Option Value) (B : List Nat) (W : XK)
def tE (f : X1) : TE := fun σ H Q => ∃ (β : Base) (Γ : G) (stk : List E) (svs : List V), Rel K β Γ stk σ svs H ∧ (f Γ).sat (fun Γ' e => ∀ H' v, Rel K β Γ' (e :: stk) σ (v :: svs) H' → Q v H') (ExW mg β W)
def tA (f : X2) : TA := fun σ H Q => ∃ (β : Base) (Γ : G) (stk : List E) (svs : List V), Rel K β Γ stk σ svs H ∧ (f Γ).sat (fun Γ' es => ∀ H' vs, es.length = vs.length → Rel K β Γ' (es.reverse ++ stk) σ (vs.reverse ++ svs) H' → Q vs H') (ExW mg β W)
def tT (f : XB) : TT := fun σ H Q => ∃ (β : Base) (Γ : G) (stk : List E) (svs : List V), Rel K β Γ stk σ svs H ∧ (f Γ).sat (fun Γ' c => ∀ H', Rel K β Γ' stk σ svs H' → Q c H') (ExW mg β W)
end

section
variable {X : Cx} {B : List Nat} {β : Base} {W : XK} {e a b : Expr} {es : List Expr}
theorem PE.imp {t t' : TE} (h : PE X e t) (i : ∀ σ H Q, t' σ H Q → t σ H Q) : PE X e t' := ⟨fun pins s σ H Q I q => h.run pins s σ H Q I (i σ H Q q)⟩
theorem PT.imp {t t' : TT} (h : PT X e t) (i : ∀ σ H Q, t' σ H Q → t σ H Q) : PT X e t' := ⟨fun pins s σ H Q I q => h.run pins s σ H Q I (i σ H Q q)⟩
theorem PW.imp {t t' : TT} (h : PW X e t) (i : ∀ σ H Q, t' σ H Q → t σ H Q) : PW X e t' := ⟨fun wh pins s σ H Q I q => h.run wh pins s σ H Q I (i σ H Q q)⟩
theorem PA.imp {t t' : TA} (h : PA X es t) (i : ∀ σ H Q, t' σ H Q → t σ H Q) : PA X es t' := ⟨fun pos pins s σ H Q I q => h.run pos pins s σ H Q I (i σ H Q q)⟩

abbrev QE (X : Cx) (B : List Nat) (W : XK) (e : Expr) (f : X1) : Prop := PE X e (tE X.K X.mg W f)
abbrev QA (X : Cx) (B : List Nat) (W : XK) (es : List Expr) (f : X2) : Prop := PA X es (tA X.K X.mg W f)
abbrev QT (X : Cx) (B : List Nat) (W : XK) (e : Expr) (f : XB) : Prop := PT X e (tT X.K X.mg W f)
abbrev QW (X : Cx) (B : List Nat) (W : XK) (e : Expr) (f : XB) : Prop := PW X e (tT X.K X.mg W f)

/-! ### names, constants -/
def rd (i : Nat) : X1 := fun Γ => match Γ[i]? with
  | some (some (.p x)) => .ok Γ (.p x)
  | some (some (.s d)) => .ok Γ (.s d)
  | some (some (.o _)) => .ok Γ (.b i)
  | _ => .bad
theorem q_rd {i : Nat} (h : PE X e (tVar i)) : QE X B W e (rd i) := PE.imp h fun σ H Q ⟨β, Γ, stk, svs, r, q⟩ => by
  unfold rd at q
  split at q
  · rename_i x hx
    obtain ⟨v, e1, r1⟩ := r.readP hx
    exact ⟨v, e1, q H v r1⟩
  · rename_i d hx
    obtain ⟨v, e1, r1⟩ := r.readS hx
    exact ⟨v, e1, q H v r1⟩
  · rename_i d hx
    obtain ⟨v, e1, r1⟩ := r.readO hx
    exact ⟨v, e1, q H v r1⟩
  · exact q.elim
def cE (x : P) : X1 := fun Γ => .ok Γ (.p x)
theorem q_c {x : P} {v : V} (h : PE X e (tC v)) (hv : ∀ H, RP X.K H x v) : QE X B W e (cE x) := PE.imp h fun σ H Q ⟨β, Γ, stk, svs, r, q⟩ => q H v (r.pushP (hv H))
theorem q_int {i j pos} : QE X B W (.Constant (.int i) j pos) (cE (.int i)) := q_c pe_int fun _ => .int i
theorem q_bl {b j pos} : QE X B W (.Constant (.bool b) j pos) (cE (.bl b)) := q_c pe_bl fun _ => .bl b
theorem q_non {j pos} : QE X B W (.Constant .none j pos) (cE .non) := q_c pe_non fun _ => .non
theorem q_str {x j pos} : QE X B W (.Constant (.str x) j pos) (cE (.str x)) := q_c pe_str fun _ => .str x

/-! ### what is at hand is settled: taken out of its slot, or shared -/
def own (f : X1) : X1 := fun Γ => (f Γ).bind fun Γ' e => match e with
  | .b i => (match Γ'[i]? with | some (some (.o d)) => .ok (Γ'.set i none) (.o d) | _ => .bad)
  | e => .ok Γ' e
theorem q_own {f : X1} (h : QE X B W e f) : QE X B W e (own f) := PE.imp h fun σ H Q ⟨β, Γ, stk, svs, r, q⟩ => by
  refine ⟨β, Γ, stk, svs, r, Rs.sat_mono (Rs.sat_bind.1 q) (fun Γ' e q' H' v r' => ?_) fun _ z => z⟩
  cases e with
  | b i =>
    dsimp only at q'
    split at q'
    · rename_i d hd
      exact q' H' v (r'.move hd)
    · exact q'.elim
  | p x => exact q' H' v r'
  | o x => exact q' H' v r'
  | s x => exact q' H' v r'
def shr (f : X1) : X1 := fun Γ => (f Γ).bind fun Γ' e => match e with
  | .b i => (match Γ'[i]? with | some (some (.o d)) => .ok (Γ'.set i (some (.s d))) (.s d) | _ => .bad)
  | e => .ok Γ' e
theorem q_shr {f : X1} (h : QE X B W e f) : QE X B W e (shr f) := PE.imp h fun σ H Q ⟨β, Γ, stk, svs, r, q⟩ => by
  refine ⟨β, Γ, stk, svs, r, Rs.sat_mono (Rs.sat_bind.1 q) (fun Γ' e q' H' v r' => ?_) fun _ z => z⟩
  cases e with
  | b i =>
    dsimp only at q'
    split at q'
    · rename_i d hd
      exact q' H' v (r'.share hd)
    · exact q'.elim
  | p x => exact q' H' v r'
  | o x => exact q' H' v r'
  | s x => exact q' H' v r'

/-! ### values by content -/
def val (Γ : G) : E → Option D
  | .p x => some (.p x)
  | .o d => some d
  | .s d => some d
  | .b i => match Γ[i]? with
    | some (some (.o d)) => some d
    | _ => none
section
variable {K : PySem.W.Frag} {Γ : G} {stk : List E} {σ : SS} {svs : List V} {H : Hp} {x : E} {v : V} {d : D}
theorem Rel.val (r : Rel K β Γ (x :: stk) σ (v :: svs) H) (h : Kv.val Γ x = some d) : ∃ F, RD K H d v F := by
  obtain ⟨M, N, T, h1, h2, h3, h4, h5⟩ := r.ex
  cases h2 with
  | nm e q =>
    unfold Kv.val at h
    dsimp only at h
    split at h
    · rename_i d' hd
      cases h
      obtain ⟨v', m, R, a, b, _⟩ := h1.get hd
      rw [a] at e; cases e
      cases b with
      | o b => exact ⟨m, b⟩
    · cases h
  | cons h' q s a b =>
    cases h' with
    | p h' => cases h; exact ⟨No, .p h'⟩
    | o h' => cases h; exact ⟨_, h'⟩
    | s h' => cases h; exact ⟨_, h'⟩
theorem Rel.pop2 {y : E} {w : V} (r : Rel K β Γ (x :: y :: stk) σ (v :: w :: svs) H) : Rel K β Γ (y :: stk) σ (w :: svs) H := r.popE
end
/-- the unchanging members of a list -/
def unP : List D → Option (List P)
  | [] => some []
  | .p x :: r => (unP r).map (x :: ·)
  | _ :: _ => none
theorem unP_map (xs : List P) : unP (xs.map .p) = some xs := by
  induction xs with
  | nil => rfl
  | cons x xs ih => simp [unP, ih]
theorem unP_eq : ∀ {ds : List D} {xs : List P}, unP ds = some xs → ds = xs.map .p
  | [], _, h => by cases h; rfl
  | .p x :: r, _, h => by
    have h : (unP r).map (x :: ·) = some _ := h
    cases q : unP r with
    | none => rw [q] at h; cases h
    | some zs => rw [q] at h; cases h; rw [unP_eq q]; rfl
/-- the unchanging members of a list or a tuple -/
def pseq (Γ : G) (e : E) : Option (List P) := match val Γ e with
  | some (.p (.tup xs)) => some xs
  | some (.lst ds) => unP ds
  | some (.tup ds) => unP ds
  | some (.fz xs) => some xs
  | _ => none
def slen (Γ : G) (e : E) : Option Nat := match val Γ e with
  | some (.p (.tup xs)) => some xs.length
  | some (.lst ds) => some ds.length
  | some (.tup ds) => some ds.length
  | some (.fz xs) => some xs.length
  | _ => none
section
variable {K : PySem.W.Frag} {Γ : G} {stk : List E} {σ : SS} {svs : List V} {H : Hp} {x : E} {v : V} {d : D}
theorem Rel.pseq {xs : List P} (r : Rel K β Γ (x :: stk) σ (v :: svs) H) (h : Kv.pseq Γ x = some xs) : ∃ (p : Addr) (vs : List V), v = .ref p ∧ (SqT K H p vs ∨ SqL K H p vs) ∧ RPs K H xs vs := by
  unfold Kv.pseq at h
  split at h
  · rename_i xs' hv
    cases h
    obtain ⟨F, q⟩ := r.val hv
    cases q with
    | p q => cases q with | tup s q => exact ⟨_, _, rfl, .inl s.sq, q⟩
  · rename_i ds hv
    obtain ⟨F, q⟩ := r.val hv
    cases q with
    | lst e q _ _ _ =>
      have := unP_eq h
      subst this
      exact ⟨_, _, rfl, .inr (SqL.of e), q.toP⟩
  · rename_i ds hv
    obtain ⟨F, q⟩ := r.val hv
    cases q with
    | tup s q =>
      have := unP_eq h
      subst this
      exact ⟨_, _, rfl, .inl s.sq, q.toP⟩
  · rename_i xs' hv
    cases h
    obtain ⟨F, q⟩ := r.val hv
    cases q with
    | fz s q => exact ⟨_, _, rfl, .inr s.sq, q⟩
  · cases h
theorem Rel.slen' {n : Nat} (r : Rel K β Γ (x :: stk) σ (v :: svs) H) (h : Kv.slen Γ x = some n) : ∃ (p : Addr) (vs : List V), v = .ref p ∧ (SqL K H p vs ∨ SqT K H p vs) ∧ vs.length = n := by
  unfold Kv.slen at h
  split at h
  · rename_i xs' hv
    cases h
    obtain ⟨F, q⟩ := r.val hv
    cases q with
    | p q => cases q with | tup s q => exact ⟨_, _, rfl, .inr s.sq, q.length.symm⟩
  · rename_i ds hv
    cases h
    obtain ⟨F, q⟩ := r.val hv
    cases q with
    | lst e q _ _ _ => exact ⟨_, _, rfl, .inl (SqL.of e), q.length.symm⟩
  · rename_i ds hv
    cases h
    obtain ⟨F, q⟩ := r.val hv
    cases q with
    | tup s q => exact ⟨_, _, rfl, .inr s.sq, q.length.symm⟩
  · rename_i xs' hv
    cases h
    obtain ⟨F, q⟩ := r.val hv
    cases q with
    | fz s q => exact ⟨_, _, rfl, .inl s.sq, q.length.symm⟩
  · cases h
theorem Rel.pushPs {xs : List P} {vs : List V} (h : RPs K H xs vs) : ∀ {stk : List E} {svs : List V}, Rel K β Γ stk σ svs H → Rel K β Γ ((xs.map E.p).reverse ++ stk) σ (vs.reverse ++ svs) H := by
  induction h using RPs.rec (motive_1 := fun _ _ _ => True) with
  | non => trivial
  | bl => trivial
  | int => trivial
  | str => trivial
  | tup => trivial
  | nil => intro stk svs r; exact r
  | cons h r _ ih =>
    intro stk svs r0
    have := ih (r0.pushP h)
    simpa using this
end

/-! ### arguments, displays -/
def nilA : X2 := fun Γ => .ok Γ []
def conA (f : X1) (g : X2) : X2 := fun Γ => (f Γ).bind fun Γ1 e => (g Γ1).bind fun Γ2 es => .ok Γ2 (e :: es)
def starA (f : X1) (g : X2) : X2 := fun Γ => (f Γ).bind fun Γ1 e => match pseq Γ1 e with
  | some xs => (g Γ1).bind fun Γ2 es => .ok Γ2 (xs.map .p ++ es)
  | none => .bad
theorem q_nil : QA X B W [] nilA := PA.imp pa_nil fun σ H Q ⟨β, Γ, stk, svs, r, q⟩ => q H [] rfl r
theorem q_con {f : X1} {g : X2} (h : QE X B W e f) (hg : QA X B W es g) (hs : starEach (e :: es) X.env = (false, eval e X.env) :: starEach es X.env := by rfl) : QA X B W (e :: es) (conA f g) :=
  PA.imp (pa_cons h hg hs) fun σ H Q ⟨β, Γ, stk, svs, r, q⟩ => by
    refine ⟨β, Γ, stk, svs, r, Rs.sat_mono (Rs.sat_bind.1 q) (fun Γ1 x q1 H1 v r1 => ?_) fun _ z => z⟩
    refine ⟨β, Γ1, x :: stk, v :: svs, r1, Rs.sat_mono (Rs.sat_bind.1 q1) (fun Γ2 xs q2 H2 vs hl r2 => ?_) fun _ z => z⟩
    exact q2 H2 (v :: vs) (by simpa using hl) (by simpa using r2)
theorem q_star {f : X1} {g : X2} {p : Pos} (h : QE X B W e f) (hg : QA X B W es g) (hs : starEach (.Starred e p :: es) X.env = (true, eval e X.env) :: starEach es X.env := by rfl) : QA X B W (.Starred e p :: es) (starA f g) :=
  PA.imp (StX.pa_star h hg hs) fun σ H Q ⟨β, Γ, stk, svs, r, q⟩ => by
    refine ⟨β, Γ, stk, svs, r, Rs.sat_mono (Rs.sat_bind.1 q) (fun Γ1 x q1 H1 v r1 => ?_) fun _ z => z⟩
    split at q1
    · rename_i xs hx
      obtain ⟨p, vs, rfl, hp, hr⟩ := r1.pseq hx
      refine ⟨p, vs, rfl, hp, ?_⟩
      have r2 := r1.popE.pushPs hr
      refine ⟨β, Γ1, _, _, r2, Rs.sat_mono (Rs.sat_bind.1 q1) (fun Γ2 ys q2 H2 ws hl r3 => ?_) fun _ z => z⟩
      refine q2 H2 (vs ++ ws) (by simp [hl, hr.length]) ?_
      simpa using r3
    · exact q1.elim
def mkTup (es : List E) : Option E := match allP es with
  | some ps => some (.p (.tup ps))
  | none => (gat es).map fun ds => .o (.tup ds)
def tupE (g : X2) : X1 := fun Γ => (g Γ).bind fun Γ1 es => if es.length ≤ 1000000 then (match mkTup es with | some e => .ok Γ1 e | none => .bad) else .bad
/-- a new tuple comes -/
def NewT (xs : List V) (H : Hp) (Q : VK) : Prop := ∀ p o, H p = none → o.dict = none → Q (.ref p) (upd H p (.frz o (.tup xs)))
theorem Inv.tupF {pins : List (Addr × Obj)} {σ : SS} {H : Hp} {s : Shared} {ys : List V} {its : List Value} {Q : VK} (I : Inv X pins σ H s) (r : Vals ys its) (hz : ys.length ≤ sizeLine) (q : NewT ys H Q) :
    EP X pins σ Q (.ref s.heap.objs.size) { s with heap := s.heap.push { cls := .type "tuple", data := .seq its.toArray } } := by
  have hf : H s.heap.objs.size = none := I.hok.fresh (Nat.le_refl _)
  refine ⟨.ref s.heap.objs.size, _, I.laid (t' := s.toks) (o := .frz { cls := .type "tuple", data := .seq its.toArray } (.tup ys)) (fun b u e => Heap.get?_push_of_some _ e) (Nat.le_refl _) ?_, rfl, q _ _ hf rfl⟩
  exact ⟨Heap.get?_push_size _ rfl, hz, its, r, ⟨_, Heap.get?_push_size _ rfl, rfl, _, rfl⟩⟩
theorem pe_tupF {t : TA} {k pos} (h : PA X es t) : PE X (.Tuple es k pos) (fun σ H Q => t σ H fun xs H1 => xs.length ≤ sizeLine ∧ NewT xs H1 Q) := by
  refine ⟨fun pins s σ H Q I hq => ?_⟩
  refine wpAny_Tuple_spliced (thn (h.run pos pins s σ H _ I hq) fun us s1 ⟨xs, H1, I1, r, z, q⟩ => ⟨by rw [← r.length]; exact z, ?_⟩)
  exact Inv.tupF I1 r z q
theorem q_tup {g : X2} {k pos} (h : QA X B W es g) : QE X B W (.Tuple es k pos) (tupE g) := PE.imp (pe_tupF h) fun σ H Q ⟨β, Γ, stk, svs, r, q⟩ => by
  refine ⟨β, Γ, stk, svs, r, Rs.sat_mono (Rs.sat_bind.1 q) (fun Γ1 xs q1 H1 vs hl r1 => ?_) fun _ z => z⟩
  split at q1
  · rename_i hz
    refine ⟨by rw [← hl]; exact Nat.le_trans hz (by decide), fun p o hp ho => ?_⟩
    unfold mkTup at q1
    split at q1
    · rename_i e' he
      split at he
      · rename_i ps hps
        cases he
        exact q1 _ _ (r1.newTupP hl hp hps ho)
      · cases hg : gat xs with
        | none => rw [hg] at he; cases he
        | some ds => rw [hg] at he; cases he; exact q1 _ _ (r1.newTupD hl hp hg ho)
    · exact q1.elim
  · exact q1.elim
def lstE (g : X2) : X1 := fun Γ => (g Γ).bind fun Γ1 es => if es.length ≤ 1000000 then (match gat es with | some ds => .ok Γ1 (.o (.lst ds)) | none => .bad) else .bad
theorem q_lst {g : X2} {pos} (h : QA X B W es g) : QE X B W (.List es pos) (lstE g) := PE.imp (pe_lst h) fun σ H Q ⟨β, Γ, stk, svs, r, q⟩ => by
  refine ⟨β, Γ, stk, svs, r, Rs.sat_mono (Rs.sat_bind.1 q) (fun Γ1 xs q1 H1 vs hl r1 => ?_) fun _ z => z⟩
  split at q1
  · rename_i hz
    refine ⟨by rw [← hl]; exact Nat.le_trans hz (by decide), fun p hp => ?_⟩
    split at q1
    · rename_i ds hg
      exact q1 _ _ (r1.newLst hl hp hg)
    · exact q1.elim
  · exact q1.elim

/-! ### operators -/
def e1 (g : G → E → Rs E) (f : X1) : X1 := fun Γ => (f Γ).bind g
def e2 (g : G → E → E → Rs E) (f h : X1) : X1 := fun Γ => (f Γ).bind fun Γ1 a => (h Γ1).bind fun Γ2 b => g Γ2 a b
def Ok1 (K : PySem.W.Frag) (mg : Str → Option Value) (B : List Nat) (W : XK) (r : V → Hp → VK → Prop) (g : G → E → Rs E) : Prop :=
  ∀ (β : Base) (Γ : G) (stk : List E) (σ : SS) (svs : List V) (H : Hp) (a : E) (x : V) (Q : VK), Rel K β Γ (a :: stk) σ (x :: svs) H →
    (g Γ a).sat (fun Γ' e => ∀ H' v, Rel K β Γ' (e :: stk) σ (v :: svs) H' → Q v H') (ExW mg β W) → r x H Q
def Ok2 (K : PySem.W.Frag) (mg : Str → Option Value) (B : List Nat) (W : XK) (r : V → V → Hp → VK → Prop) (g : G → E → E → Rs E) : Prop :=
  ∀ (β : Base) (Γ : G) (stk : List E) (σ : SS) (svs : List V) (H : Hp) (a b : E) (x y : V) (Q : VK), Rel K β Γ (b :: a :: stk) σ (y :: x :: svs) H →
    (g Γ a b).sat (fun Γ' e => ∀ H' v, Rel K β Γ' (e :: stk) σ (v :: svs) H' → Q v H') (ExW mg β W) → r x y H Q
theorem q_1 {r : V → Hp → VK → Prop} {g : G → E → Rs E} {f : X1} {ee : Expr} (h : QE X B W a f) (hr : ∀ t, PE X a t → PE X ee (fun σ H Q => t σ H fun x H1 => r x H1 Q)) (ok : Ok1 X.K X.mg B W r g) : QE X B W ee (e1 g f) :=
  PE.imp (hr _ h) fun σ H Q ⟨β, Γ, stk, svs, r0, q⟩ =>
    ⟨β, Γ, stk, svs, r0, Rs.sat_mono (Rs.sat_bind.1 q) (fun Γ1 x q1 H1 v r1 => ok β Γ1 stk σ svs H1 x v Q r1 q1) fun _ z => z⟩
theorem q_2 {r : V → V → Hp → VK → Prop} {g : G → E → E → Rs E} {f h : X1} {ee : Expr} (ha : QE X B W a f) (hb : QE X B W b h) (hr : ∀ t u, PE X a t → PE X b u → PE X ee (tOp r t u)) (ok : Ok2 X.K X.mg B W r g) : QE X B W ee (e2 g f h) :=
  PE.imp (hr _ _ ha hb) fun σ H Q ⟨β, Γ, stk, svs, r0, q⟩ =>
    ⟨β, Γ, stk, svs, r0, Rs.sat_mono (Rs.sat_bind.1 q) (fun Γ1 x q1 H1 v r1 =>
      ⟨β, Γ1, x :: stk, v :: svs, r1, Rs.sat_mono (Rs.sat_bind.1 q1) (fun Γ2 y q2 H2 w r2 => ok β Γ2 stk σ svs H2 x y v w Q r2 q2) fun _ z => z⟩) fun _ z => z⟩
/-- an operator of two ints -/
def opI (g : Int → Int → Option P) : G → E → E → Rs E := fun Γ a b => match a, b with
  | .p (.int i), .p (.int j) => (match g i j with | some x => .ok Γ (.p x) | none => .bad)
  | _, _ => .bad
theorem RP.int_inv {K : PySem.W.Frag} {H : Hp} {i : Int} {v : V} (h : RP K H (.int i) v) : v = .int i := by cases h; rfl
theorem RP.str_inv {K : PySem.W.Frag} {H : Hp} {i : Str} {v : V} (h : RP K H (.str i) v) : v = .str i := by cases h; rfl
theorem RP.bl_inv {K : PySem.W.Frag} {H : Hp} {i : Bool} {v : V} (h : RP K H (.bl i) v) : v = .bl i := by cases h; rfl
theorem RP.non_inv {K : PySem.W.Frag} {H : Hp} {v : V} (h : RP K H .non v) : v = .non := by cases h; rfl
theorem okI {K : PySem.W.Frag} {mg : Str → Option Value} {C : Int → Int → Prop} {rg : Int → Int → V} {g : Int → Int → Option P} (h : ∀ i j x, g i j = some x → C i j ∧ ∀ H, RP K H x (rg i j)) : Ok2 K mg B W (rI C rg) (opI g) := by
  intro β Γ stk σ svs H a b x y Q r q
  unfold opI at q
  split at q
  · rename_i i j
    split at q
    · rename_i z hz
      have h1 := r.topP.int_inv
      have h2 := r.popE.topP.int_inv
      subst h1 h2
      obtain ⟨c, hv⟩ := h i j z hz
      exact ⟨i, j, rfl, rfl, c, q H _ (r.popE.popE.pushP (hv H))⟩
    · exact q.elim
  · exact q.elim
theorem okI0 {K : PySem.W.Frag} {mg : Str → Option Value} {rg : Int → Int → V} {g : Int → Int → Option P} (h : ∀ i j x, g i j = some x → ∀ H, RP K H x (rg i j)) : Ok2 K mg B W (rI0 rg) (opI g) := by
  intro β Γ stk σ svs H a b x y Q r q
  unfold opI at q
  split at q
  · rename_i i j
    split at q
    · rename_i z hz
      have h1 := r.topP.int_inv
      have h2 := r.popE.topP.int_inv
      subst h1 h2
      exact ⟨i, j, rfl, rfl, q H _ (r.popE.popE.pushP (h i j z hz H))⟩
    · exact q.elim
  · exact q.elim
abbrev addI := opI fun i j => some (.int (i + j))
abbrev subI := opI fun i j => some (.int (i - j))
abbrev ltI := opI fun i j => some (.bl (decide (i < j)))
abbrev leI := opI fun i j => some (.bl (decide (i ≤ j)))
abbrev gtI := opI fun i j => some (.bl (decide (j < i)))
abbrev geI := opI fun i j => some (.bl (decide (j ≤ i)))
theorem q_add {f h : X1} {pos} (ha : QE X B W a f) (hb : QE X B W b h) : QE X B W (.BinOp a .Add b pos) (e2 addI f h) :=
  q_2 ha hb (fun t u => pe_op op_add) (okI0 fun i j x e H => by cases e; exact .int _)
theorem q_sub {f h : X1} {pos} (ha : QE X B W a f) (hb : QE X B W b h) : QE X B W (.BinOp a .Sub b pos) (e2 subI f h) :=
  q_2 ha hb (fun t u => pe_op op_sub) (okI0 fun i j x e H => by cases e; exact .int _)
theorem q_lt {f h : X1} {pos} (ha : QE X B W a f) (hb : QE X B W b h) : QE X B W (.Compare a [.Lt] [b] pos) (e2 ltI f h) :=
  q_2 ha hb (fun t u x y => pe_cmpR op_lt x y (nomark _)) (okI0 fun i j x e H => by cases e; exact .bl _)
theorem q_le {f h : X1} {pos} (ha : QE X B W a f) (hb : QE X B W b h) : QE X B W (.Compare a [.LtE] [b] pos) (e2 leI f h) :=
  q_2 ha hb (fun t u x y => pe_cmpR op_le x y (nomark _)) (okI0 fun i j x e H => by cases e; exact .bl _)
theorem q_gt {f h : X1} {pos} (ha : QE X B W a f) (hb : QE X B W b h) : QE X B W (.Compare a [.Gt] [b] pos) (e2 gtI f h) :=
  q_2 ha hb (fun t u x y => pe_cmpR op_gt x y (nomark _)) (okI0 fun i j x e H => by cases e; exact .bl _)
theorem q_ge {f h : X1} {pos} (ha : QE X B W a f) (hb : QE X B W b h) : QE X B W (.Compare a [.GtE] [b] pos) (e2 geI f h) :=
  q_2 ha hb (fun t u x y => pe_cmpR op_ge x y (nomark _)) (okI0 fun i j x e H => by cases e; exact .bl _)
end
end Kv

set_option Elab.async false
set_option linter.all false
set_option maxRecDepth 100000
set_option maxHeartbeats 2000000
set_option autoImplicit false
/-! Kv, part E: more operators, comparisons, tests, items, slices. -/
namespace Kv
open PySem PySem.Spec L2
variable [Tbl]
section
variable {X : Cx} {B : List Nat} {β : Base} {W : XK} {e a b c : Expr} {es : List Expr} {f h : X1}
/-! ### numbers -/
abbrev mulI := opI fun i j => if (-(2 ^ 64) < i ∧ i < 2 ^ 64) ∨ (-(2 ^ 64) < j ∧ j < 2 ^ 64) then some (.int (i * j)) else none
abbrev fdivI := opI fun i j => if 0 < j ∧ j < 1073741824 then some (.int (i / j)) else none
abbrev modI := opI fun i j => if 0 < j then some (.int (i % j)) else none
theorem q_mul {pos} (ha : QE X B W a f) (hb : QE X B W b h) : QE X B W (.BinOp a .Mult b pos) (e2 mulI f h) :=
  q_2 ha hb (fun t u => pe_op op_mul) (okI fun i j x e => by
    split at e
    · rename_i q; cases e; exact ⟨q, fun H => .int _⟩
    · cases e)
theorem q_fdiv {pos} (ha : QE X B W a f) (hb : QE X B W b h) : QE X B W (.BinOp a .FloorDiv b pos) (e2 fdivI f h) :=
  q_2 ha hb (fun t u => pe_op op_fdiv) (okI fun i j x e => by
    split at e
    · rename_i q; cases e; exact ⟨q, fun H => .int _⟩
    · cases e)
theorem q_mod {pos} (ha : QE X B W a f) (hb : QE X B W b h) : QE X B W (.BinOp a .Mod b pos) (e2 modI f h) :=
  q_2 ha hb (fun t u => pe_op op_mod) (okI fun i j x e => by
    split at e
    · rename_i q; cases e; exact ⟨q, fun H => .int _⟩
    · cases e)
def negI : G → E → Rs E := fun Γ a => match a with
  | .p (.int i) => .ok Γ (.p (.int (-i)))
  | _ => .bad
theorem q_neg {pos} (ha : QE X B W a f) : QE X B W (.UnaryOp .USub a pos) (e1 negI f) :=
  q_1 (r := rU fun i => V.int (-i)) ha (fun t h => pe_un un_neg h) fun β Γ stk σ svs H a x Q r q => by
    unfold negI at q
    split at q
    · have h1 := r.topP.int_inv
      subst h1
      exact ⟨_, rfl, q H _ (r.popE.pushP (.int _))⟩
    · exact q.elim
/-! ### texts, lists, tuples put together -/
def catS : G → E → E → Rs E := fun Γ a b => match a, b with
  | .p (.str x), .p (.str y) => if x.length + y.length ≤ 1000000 then .ok Γ (.p (.str (x ++ y))) else .bad
  | _, _ => .bad
theorem q_catS {pos} (ha : QE X B W a f) (hb : QE X B W b h) : QE X B W (.BinOp a .Add b pos) (e2 catS f h) :=
  q_2 ha hb (fun t u => pe_op op_add_str) fun β Γ stk σ svs H a b x y Q r q => by
    unfold catS at q
    split at q
    · split at q
      · rename_i hz
        have h1 := r.topP.str_inv
        have h2 := r.popE.topP.str_inv
        subst h1 h2
        exact ⟨_, _, rfl, rfl, Nat.le_trans hz (by decide), q H _ (r.popE.popE.pushP (.str _))⟩
      · exact q.elim
    · exact q.elim
/-- a list's unchanging members, the list owned or named -/
def plst (Γ : G) (e : E) : Option (List P) := match val Γ e with
  | some (.lst ds) => unP ds
  | _ => none
theorem Rel.plst {K : PySem.W.Frag} {Γ : G} {stk : List E} {σ : SS} {svs : List V} {H : Hp} {x : E} {v : V} {xs : List P} (r : Rel K β Γ (x :: stk) σ (v :: svs) H) (h : Kv.plst Γ x = some xs) :
    ∃ (p : Addr) (vs : List V), v = .ref p ∧ H p = some (.lst vs) ∧ RPs K H xs vs := by
  unfold Kv.plst at h
  split at h
  · rename_i ds hv
    obtain ⟨F, q⟩ := r.val hv
    cases q with
    | lst e q _ _ _ =>
      have := unP_eq h
      subst this
      exact ⟨_, _, rfl, e, q.toP⟩
  · cases h
def catL : G → E → E → Rs E := fun Γ a b => match plst Γ a, plst Γ b with
  | some xs, some ys => if xs.length + ys.length ≤ 1000000 then .ok Γ (.o (.lst ((xs ++ ys).map .p))) else .bad
  | _, _ => .bad
theorem val_pop {Γ : G} {x : E} : val Γ x = val Γ x := rfl
theorem q_catL {pos} (ha : QE X B W a f) (hb : QE X B W b h) : QE X B W (.BinOp a .Add b pos) (e2 catL f h) :=
  q_2 ha hb (fun t u => pe_op op_cat) fun β Γ stk σ svs H a b x y Q r q => by
    unfold catL at q
    split at q
    · rename_i xs ys h1 h2
      split at q
      · rename_i hz
        obtain ⟨p2, vs2, rfl, e2, r2⟩ := r.plst h2
        obtain ⟨p1, vs1, rfl, e1, r1⟩ := r.popE.plst h1
        refine ⟨p1, p2, vs1, vs2, rfl, rfl, e1, e2, ?_, fun p hp => q _ _ (r.popE.popE.newLstP hp (r1.app r2))⟩
        rw [← r1.length, ← r2.length]
        exact Nat.le_trans hz (by decide)
      · exact q.elim
    · exact q.elim
/-- two owned lists, whatever is in them: the members go to the new one -/
def catO : G → E → E → Rs E := fun Γ a b => match a, b with
  | .o (.lst xs), .o (.lst ys) => if xs.length + ys.length ≤ 1000000 then .ok Γ (.o (.lst (xs ++ ys))) else .bad
  | _, _ => .bad
theorem q_catO {pos} (ha : QE X B W a f) (hb : QE X B W b h) : QE X B W (.BinOp a .Add b pos) (e2 catO f h) :=
  q_2 ha hb (fun t u => pe_op op_cat) fun β Γ stk σ svs H a b x y Q r q => by
    unfold catO at q
    split at q
    · rename_i xs ys
      split at q
      · rename_i hz
        obtain ⟨F2, q2⟩ := r.val (x := .o (.lst ys)) rfl
        obtain ⟨F1, q1⟩ := r.popE.val (x := .o (.lst xs)) rfl
        cases q2 with
        | lst e2 r2 l2 f2 n2 =>
          cases q1 with
          | lst e1 r1 l1 f1 n1 =>
            rename_i vs2 a2 G2 vs1 a1 G1
            refine ⟨a1, a2, vs1, vs2, rfl, rfl, e1, e2, ?_, fun p hp => ?_⟩
            · rw [← r1.length, ← r2.length]
              exact Nat.le_trans hz (by decide)
            · refine q _ _ (Rel.alloc (es := [.o (.lst xs), .o (.lst ys)]) (vs := [.ref a1, .ref a2]) (F := fun a => a = p) r rfl hp (fun _ z => ⟨z, .inl ⟨_, rfl⟩⟩) fun M1 T k nM => ?_)
              cases k with
              | cons h3 k s3 l3 m3 =>
                cases k with
                | cons h4 k s4 l4 m4 =>
                  cases h3 with
                  | o h3 =>
                    cases h4 with
                    | o h4 =>
                      cases h3 with
                      | @lst _ vs3 _ _ Gc e3 r3 k3 f3 g3 =>
                        cases h4 with
                        | @lst _ vs4 _ _ Gd e4 r4 k4 f4 g4 =>
                          rw [e1] at e3; cases e3
                          rw [e2] at e4; cases e4
                          refine .o (.lst (G := U Gc Gd) upd_same ((RDs.app (r3.kp (kp_new hp)) (r4.kp (kp_new hp)) ((s3.mono k3 (k4.trans l4))) Le.inl Le.inr)) ?_ (.inl rfl) ?_)
                          · exact (Le.u (k3.trans l3) (k4.trans (l4.trans m3))).trans Le.inr
                          · exact fun z => nM (z.elim (fun z => l3 _ (k3 _ z)) fun z => m3 _ (l4 _ (k4 _ z)))
      · exact q.elim
    · exact q.elim
/-- t + u, unchanging -/
def catT : G → E → E → Rs E := fun Γ a b => match a, b with
  | .p (.tup xs), .p (.tup ys) => if xs.length + ys.length ≤ 1000000 then .ok Γ (.p (.tup (xs ++ ys))) else .bad
  | _, _ => .bad
theorem RP.tup_inv {K : PySem.W.Frag} {H : Hp} {xs : List P} {v : V} (h : RP K H (.tup xs) v) : ∃ p vs, v = .ref p ∧ TupT K H p vs ∧ RPs K H xs vs := by
  cases h with
  | tup a b => exact ⟨_, _, rfl, a, b⟩
theorem op_catF : OpR X (binaryOp .Add) (fun x y H Q => ∃ a b xs ys, x = .ref a ∧ y = .ref b ∧ SqT X.K H a xs ∧ SqT X.K H b ys ∧ xs.length + ys.length ≤ sizeLine ∧
    (xs = [] → Q (.ref b) H) ∧ (xs ≠ [] → ys = [] → Q (.ref a) H) ∧ (xs ≠ [] → ys ≠ [] → NewT (xs ++ ys) H Q)) := by
  intro pins s σ H x y v u Q I rx ry h
  obtain ⟨p, q, xs, ys, rfl, rfl, hp, hq, hz, q0, q1, q2⟩ := h
  by_cases hx : xs = []
  · exact op_catA pins s σ H _ _ v u Q I rx ry ⟨p, q, xs, ys, rfl, rfl, hp, hq, hz, q0, q1, fun z => absurd hx z⟩
  · by_cases hy : ys = []
    · exact op_catA pins s σ H _ _ v u Q I rx ry ⟨p, q, xs, ys, rfl, rfl, hp, hq, hz, q0, q1, fun _ z => absurd hy z⟩
    · cases rx
      cases ry
      obtain ⟨its, r1, p1, _⟩ := I.tuple hp
      obtain ⟨its2, r2, p2, _⟩ := I.tuple hq
      refine HT.cat_tup p1 p2 (fun z => hx (r1.nil_iff.mp z)) (fun z => absurd (r2.nil_iff.mp z) hy) (fun z => ?_) (by rw [← r1.length, ← r2.length]; exact hz)
      exact Inv.tupF (its := its ++ its2) I (r1.append r2) (by rw [List.length_append]; exact hz) (q2 hx hy)
theorem q_catT {pos} (ha : QE X B W a f) (hb : QE X B W b h) : QE X B W (.BinOp a .Add b pos) (e2 catT f h) :=
  q_2 ha hb (fun t u => pe_op op_catF) fun β Γ stk σ svs H a b x y Q r q => by
    unfold catT at q
    split at q
    · rename_i xs ys
      split at q
      · rename_i hz
        obtain ⟨p2, vs2, rfl, e2, r2⟩ := r.topP.tup_inv
        obtain ⟨p1, vs1, rfl, e1, r1⟩ := r.popE.topP.tup_inv
        refine ⟨p1, p2, vs1, vs2, rfl, rfl, e1.sq, e2.sq, ?_, fun z => ?_, fun _ z => ?_, fun _ _ p o hp ho => ?_⟩
        · rw [← r1.length, ← r2.length]
          exact Nat.le_trans hz (by decide)
        · subst z
          cases r1
          exact q _ _ (r.popE.popE.pushP (.tup e2 r2))
        · subst z
          cases r2
          rw [List.append_nil] at q
          exact q _ _ (r.popE.popE.pushP (.tup e1 r1))
        · exact q _ _ (r.popE.popE.newTup hp (r1.app r2) ho)
      · exact q.elim
    · exact q.elim

/-! ### equal, unlike: data of any depth -/
mutual
def P.py : P → PyData
  | .non => .none
  | .bl b => .bool b
  | .int i => .int i
  | .str s => .str s
  | .tup xs => .tuple (P.pys xs)
def P.pys : List P → List PyData
  | [] => []
  | x :: xs => x.py :: P.pys xs
end
theorem P.pys_map (xs : List P) : P.pys xs = xs.map P.py := by
  induction xs with
  | nil => rfl
  | cons x xs ih => simp [P.pys, ih]
mutual
/-- a list, a tuple, as data; a dict has none -/
def D.py : D → Option PyData
  | .p x => some x.py
  | .lst xs => (D.pys xs).map .list
  | .tup xs => (D.pys xs).map .tuple
  | .fz xs => some (.list (P.pys xs))
  | .dct _ => none
def D.pys : List D → Option (List PyData)
  | [] => some []
  | x :: xs => (D.py x).bind fun y => (D.pys xs).map (y :: ·)
end
theorem D.pys_map (xs : List P) : D.pys (xs.map .p) = some (P.pys xs) := by
  induction xs with
  | nil => rfl
  | cons x xs ih => simp [D.pys, D.py, P.pys, ih]
section
variable {K : PySem.W.Frag} {H : Hp}
mutual
theorem RP.dp : ∀ {x : P} {v : V}, RP K H x v → Dp K H v x.py
  | _, _, .non => .non
  | _, _, .bl b => .bl b
  | _, _, .int i => .int i
  | _, _, .str s => .str s
  | _, _, .tup h r => .tup h.sq (RPs.dp r)
theorem RPs.dp : ∀ {xs : List P} {vs : List V}, RPs K H xs vs → DpAll K H vs (P.pys xs)
  | _, _, .nil => .nil
  | _, _, .cons h r => .cons (RP.dp h) (RPs.dp r)
end
mutual
theorem RD.dp : ∀ {d : D} {v : V} {F : AP} {y : PyData}, RD K H d v F → d.py = some y → Dp K H v y
  | .p x, _, _, _, .p h, e => by cases e; exact h.dp
  | .lst xs, _, _, _, .lst h r _ _ _, e => by
    have e : (D.pys xs).map PyData.list = some _ := e
    cases q : D.pys xs with
    | none => rw [q] at e; cases e
    | some ys => rw [q] at e; cases e; exact .lst (SqL.of h) (RDs.dp r q)
  | .tup xs, _, _, _, .tup h r, e => by
    have e : (D.pys xs).map PyData.tuple = some _ := e
    cases q : D.pys xs with
    | none => rw [q] at e; cases e
    | some ys => rw [q] at e; cases e; exact .tup h.sq (RDs.dp r q)
  | .fz xs, _, _, _, .fz h r, e => by cases e; exact .lst h.sq r.dp
  | .dct kvs, _, _, _, _, e => by cases e
theorem RDs.dp : ∀ {ds : List D} {vs : List V} {F : AP} {ys : List PyData}, RDs K H ds vs F → D.pys ds = some ys → DpAll K H vs ys
  | [], _, _, _, .nil, e => by cases e; exact .nil
  | d :: ds, _, _, _, .cons h r _ _ _, e => by
    have e : (D.py d).bind (fun y => (D.pys ds).map (y :: ·)) = some _ := e
    cases q : D.py d with
    | none => rw [q] at e; cases e
    | some y =>
      cases q2 : D.pys ds with
      | none => rw [q, q2] at e; cases e
      | some ys => rw [q, q2] at e; cases e; exact .cons (RD.dp h q) (RDs.dp r q2)
end
end
def pyOf (Γ : G) (e : E) : Option PyData := (val Γ e).bind D.py
/-- two texts at hand -/
def strs2 : E → E → Option (Str × Str)
  | .p (.str x), .p (.str y) => some (x, y)
  | _, _ => none
/-- whether two are equal, both of a form that is served -/
def eqOf (Γ : G) (a b : E) : Option Bool := match strs2 a b with
  | some q => some (decide (q.1 = q.2))
  | none => (match pyOf Γ a, pyOf Γ b with
    | some x, some y => if SeqAt.shaped x = true ∧ SeqAt.shaped y = true then some (PyData.eqv x y) else none
    | _, _ => none)
/-- either of two ways -/
def rOr (r1 r2 : R2) : R2 := fun x y H Q => r1 x y H Q ∨ r2 x y H Q
theorem OpR.or {X : Cx} {f : Value → Value → Sem Value} {r1 r2 : R2} (a : OpR X f r1) (b : OpR X f r2) : OpR X f (rOr r1 r2) := by
  intro pins s σ H x y v u Q I rx ry h
  rcases h with h | h
  · exact a pins s σ H x y v u Q I rx ry h
  · exact b pins s σ H x y v u Q I rx ry h
theorem strs2_eq {a b : E} {q : Str × Str} (h : strs2 a b = some q) : a = .p (.str q.1) ∧ b = .p (.str q.2) := by
  unfold strs2 at h
  split at h
  · cases h; exact ⟨rfl, rfl⟩
  · cases h
def eqE : G → E → E → Rs E := fun Γ a b => match eqOf Γ a b with
  | some c => .ok Γ (.p (.bl c))
  | none => .bad
def neE : G → E → E → Rs E := fun Γ a b => match eqOf Γ a b with
  | some c => .ok Γ (.p (.bl (!c)))
  | none => .bad
theorem Rel.dp {K : PySem.W.Frag} {Γ : G} {stk : List E} {σ : SS} {svs : List V} {H : Hp} {x : E} {v : V} {y : PyData} (r : Rel K β Γ (x :: stk) σ (v :: svs) H) (h : pyOf Γ x = some y) : Dp K H v y := by
  unfold pyOf at h
  cases q : Kv.val Γ x with
  | none => rw [q] at h; cases h
  | some d =>
    rw [q] at h
    obtain ⟨F, k⟩ := r.val q
    exact k.dp h
theorem q_eq {pos} (hu : X.A.units + 64 < cLine) (ha : QE X B W a f) (hb : QE X B W b h) : QE X B W (.Compare a [.Eq] [b] pos) (e2 eqE f h) :=
  q_2 ha hb (fun t u x y => pe_cmpR (OpR.or (op_eqD hu) op_eq) x y (nomark _)) fun β Γ stk σ svs H a b x y Q r q => by
    unfold eqE eqOf at q
    split at q
    · rename_i cc hc
      split at hc
      · rename_i st hst
        cases hc
        obtain ⟨rfl, rfl⟩ := strs2_eq hst
        have hy := r.topP
        have hx := r.popE.topP
        cases hy
        cases hx
        refine .inr ⟨rfl, ?_⟩
        have e : decide (V.str st.1 = V.str st.2) = decide (st.1 = st.2) := by simp
        rw [e]
        exact q H _ (r.popE.popE.pushP (.bl _))
      · split at hc
        · rename_i x' y' hx hy
          split at hc
          · rename_i hs
            cases hc
            exact .inl ⟨x', y', r.popE.dp hx, r.dp hy, hs.1, hs.2, q H _ (r.popE.popE.pushP (.bl _))⟩
          · cases hc
        · cases hc
    · exact q.elim
theorem q_ne {pos} (hu : X.A.units + 64 < cLine) (ha : QE X B W a f) (hb : QE X B W b h) : QE X B W (.Compare a [.NotEq] [b] pos) (e2 neE f h) :=
  q_2 ha hb (fun t u x y => pe_cmpR (OpR.or (op_neD hu) op_ne) x y (nomark _)) fun β Γ stk σ svs H a b x y Q r q => by
    unfold neE eqOf at q
    split at q
    · rename_i cc hc
      split at hc
      · rename_i st hst
        cases hc
        obtain ⟨rfl, rfl⟩ := strs2_eq hst
        have hy := r.topP
        have hx := r.popE.topP
        cases hy
        cases hx
        refine .inr ⟨rfl, ?_⟩
        have e : decide (V.str st.1 = V.str st.2) = decide (st.1 = st.2) := by simp
        rw [e]
        exact q H _ (r.popE.popE.pushP (.bl _))
      · split at hc
        · rename_i x' y' hx hy
          split at hc
          · rename_i hs
            cases hc
            exact .inl ⟨x', y', r.popE.dp hx, r.dp hy, hs.1, hs.2, q H _ (r.popE.popE.pushP (.bl _))⟩
          · cases hc
        · cases hc
    · exact q.elim

/-! ### in, not in -/
def P.fl : P → Option V
  | .non => some .non
  | .bl b => some (.bl b)
  | .int i => some (.int i)
  | .str s => some (.str s)
  | .tup _ => none
def flats : List P → Option (List V)
  | [] => some []
  | x :: xs => x.fl.bind fun v => (flats xs).map (v :: ·)
theorem P.fl_flat {x : P} {v : V} (h : x.fl = some v) : flatV v = true := by cases x <;> cases h <;> rfl
theorem RP.fl {K : PySem.W.Frag} {H : Hp} {x : P} {v w : V} (h : RP K H x v) (e : x.fl = some w) : v = w := by
  cases h <;> cases e <;> rfl
theorem RPs.fl {K : PySem.W.Frag} {H : Hp} : ∀ {xs : List P} {vs ws : List V}, RPs K H xs vs → flats xs = some ws → vs = ws
  | _, _, _, .nil, e => by cases e; rfl
  | x :: xs, _, _, .cons h r, e => by
    have e : x.fl.bind (fun v => (flats xs).map (v :: ·)) = some _ := e
    cases q : x.fl with
    | none => rw [q] at e; cases e
    | some v =>
      cases q2 : flats xs with
      | none => rw [q, q2] at e; cases e
      | some vs => rw [q, q2] at e; cases e; rw [h.fl q, RPs.fl r q2]
theorem flats_flat : ∀ {xs : List P} {ws : List V}, flats xs = some ws → ws.all flatV = true
  | [], _, e => by cases e; rfl
  | x :: xs, _, e => by
    have e : x.fl.bind (fun v => (flats xs).map (v :: ·)) = some _ := e
    cases q : x.fl with
    | none => rw [q] at e; cases e
    | some v =>
      cases q2 : flats xs with
      | none => rw [q, q2] at e; cases e
      | some vs => rw [q, q2] at e; cases e; rw [List.all_cons, P.fl_flat q, flats_flat q2]; rfl
/-- whether a number, a text .. is among those of a list or a tuple -/
def inOf (Γ : G) (a b : E) : Option Bool := match a, pseq Γ b with
  | .p x, some ys => (match x.fl, flats ys with
    | some v, some ws => some (inV v ws)
    | _, _ => none)
  | _, _ => none
def inE : G → E → E → Rs E := fun Γ a b => match inOf Γ a b with
  | some c => .ok Γ (.p (.bl c))
  | none => .bad
def niE : G → E → E → Rs E := fun Γ a b => match inOf Γ a b with
  | some c => .ok Γ (.p (.bl (!c)))
  | none => .bad
theorem Rel.inOf {K : PySem.W.Frag} {Γ : G} {stk : List E} {σ : SS} {svs : List V} {H : Hp} {a b : E} {x y : V} {c : Bool} (r : Rel K β Γ (b :: a :: stk) σ (y :: x :: svs) H) (h : Kv.inOf Γ a b = some c) :
    ∃ p ws, y = .ref p ∧ (SqL K H p ws ∨ SqT K H p ws) ∧ flatV x = true ∧ ws.all flatV = true ∧ inV x ws = c := by
  unfold Kv.inOf at h
  split at h
  · rename_i px ys hys
    split at h
    · rename_i v ws hv hw
      cases h
      obtain ⟨p, vs, rfl, hp, hr⟩ := r.pseq hys
      have h1 := r.popE.topP.fl hv
      have h2 := hr.fl hw
      subst h1 h2
      exact ⟨p, vs, rfl, hp.symm, P.fl_flat hv, flats_flat hw, rfl⟩
    · cases h
  · cases h
theorem q_in {pos} (ha : QE X B W a f) (hb : QE X B W b h) (hm : behindInMarks .In b = false := by rfl) : QE X B W (.Compare a [.In] [b] pos) (e2 inE f h) :=
  q_2 ha hb (fun t u x y => pe_cmpR op_in_seq x y hm) fun β Γ stk σ svs H a b x y Q r q => by
    unfold inE at q
    split at q
    · rename_i cc hc
      obtain ⟨p, ws, e1, h1, h2, h3, h4⟩ := r.inOf hc
      exact ⟨p, ws, e1, h1, h2, h3, by rw [h4]; exact q H _ (r.popE.popE.pushP (.bl _))⟩
    · exact q.elim
theorem q_notin {pos} (ha : QE X B W a f) (hb : QE X B W b h) (hm : behindInMarks .NotIn b = false := by rfl) : QE X B W (.Compare a [.NotIn] [b] pos) (e2 niE f h) :=
  q_2 ha hb (fun t u x y => pe_cmpR op_notIn_seq x y hm) fun β Γ stk σ svs H a b x y Q r q => by
    unfold niE at q
    split at q
    · rename_i cc hc
      obtain ⟨p, ws, e1, h1, h2, h3, h4⟩ := r.inOf hc
      exact ⟨p, ws, e1, h1, h2, h3, by rw [h4]; exact q H _ (r.popE.popE.pushP (.bl _))⟩
    · exact q.elim
/-- a sign in a text -/
def inSE : G → E → E → Rs E := fun Γ a b => match a, b with
  | .p (.str x), .p (.str z) => (match x.cps.toList with | [c] => .ok Γ (.p (.bl (decide (c ∈ z.cps.toList)))) | _ => .bad)
  | _, _ => .bad
theorem q_inS {pos} (ha : QE X B W a f) (hb : QE X B W b h) (hm : behindInMarks .In b = false := by rfl) : QE X B W (.Compare a [.In] [b] pos) (e2 inSE f h) :=
  q_2 ha hb (fun t u x y => pe_cmpR op_in_sign x y hm) fun β Γ stk σ svs H a b x y Q r q => by
    unfold inSE at q
    split at q
    · rename_i s z
      split at q
      · rename_i c hc
        have h1 := r.topP.str_inv
        have h2 := r.popE.topP.str_inv
        subst h1 h2
        have e : s = ⟨#[c]⟩ := by
          obtain ⟨⟨l⟩⟩ := s
          simp only at hc
          rw [hc]
        exact ⟨c, _, by rw [e], rfl, q H _ (r.popE.popE.pushP (.bl _))⟩
      · exact q.elim
    · exact q.elim

/-! ### tests -/
def tst (f : X1) : XB := fun Γ => (f Γ).bind fun Γ1 e => match e with
  | .p (.bl c) => .ok Γ1 c
  | _ => .bad
theorem q_tst (h : QE X B W e f) (he : ∀ whole, isTrue e X.env whole = (do let v ← whole; standAt e.pos; holding [v] (truthy v)) := by intro _; rfl) : QT X B W e (tst f) :=
  PT.imp (pt_val h he) fun σ H Q ⟨β, Γ, stk, svs, r, q⟩ => by
    refine ⟨β, Γ, stk, svs, r, Rs.sat_mono (Rs.sat_bind.1 q) (fun Γ1 x q1 H1 v r1 => ?_) fun _ z => z⟩
    split at q1
    · exact ⟨_, r1.topP.bl_inv, q1 H1 r1.popE⟩
    · exact q1.elim
theorem q_tcmp {op : CmpOp} {pos} (h : QE X B W (.Compare a [op] [b] pos) f) (hs : ∀ t, PE X (.Compare a [op] [b] pos) t → PT X (.Compare a [op] [b] pos) (tB t)) : QT X B W (.Compare a [op] [b] pos) (tst f) :=
  PT.imp (hs _ h) fun σ H Q ⟨β, Γ, stk, svs, r, q⟩ => by
    refine ⟨β, Γ, stk, svs, r, Rs.sat_mono (Rs.sat_bind.1 q) (fun Γ1 x q1 H1 v r1 => ?_) fun _ z => z⟩
    split at q1
    · exact ⟨_, r1.topP.bl_inv, q1 H1 r1.popE⟩
    · exact q1.elim
def andB (f g : XB) : XB := fun Γ => (f Γ).bind fun Γ1 c => if c then g Γ1 else .ok Γ1 false
def orB (f g : XB) : XB := fun Γ => (f Γ).bind fun Γ1 c => if c then .ok Γ1 true else g Γ1
def notB (f : XB) : XB := fun Γ => (f Γ).bind fun Γ1 c => .ok Γ1 (!c)
variable {fb gb : XB} {rest : List Expr}
theorem w_and1 {pos} (ha : QT X B W a fb) : QW X B W (.BoolOp .And [a] pos) fb := pw_and1 ha
theorem w_or1 {pos} (ha : QT X B W a fb) : QW X B W (.BoolOp .Or [a] pos) fb := pw_or1 ha
theorem w_and {pos} (ha : QT X B W a fb) (hb : QW X B W (.BoolOp .And (b :: rest) pos) gb) : QW X B W (.BoolOp .And (a :: b :: rest) pos) (andB fb gb) :=
  PW.imp (pw_and ha hb) fun σ H Q ⟨β, Γ, stk, svs, r, q⟩ => by
    refine ⟨β, Γ, stk, svs, r, Rs.sat_mono (Rs.sat_bind.1 q) (fun Γ1 c q1 H1 r1 => ?_) fun _ z => z⟩
    cases c with
    | true => exact ⟨β, Γ1, stk, svs, r1, q1⟩
    | false => exact q1 H1 r1
theorem w_or {pos} (ha : QT X B W a fb) (hb : QW X B W (.BoolOp .Or (b :: rest) pos) gb) : QW X B W (.BoolOp .Or (a :: b :: rest) pos) (orB fb gb) :=
  PW.imp (pw_or ha hb) fun σ H Q ⟨β, Γ, stk, svs, r, q⟩ => by
    refine ⟨β, Γ, stk, svs, r, Rs.sat_mono (Rs.sat_bind.1 q) (fun Γ1 c q1 H1 r1 => ?_) fun _ z => z⟩
    cases c with
    | true => exact q1 H1 r1
    | false => exact ⟨β, Γ1, stk, svs, r1, q1⟩
theorem q_tnot {pos} (ha : QT X B W a fb) : QT X B W (.UnaryOp .Not a pos) (notB fb) :=
  PT.imp (pt_not ha) fun σ H Q ⟨β, Γ, stk, svs, r, q⟩ =>
    ⟨β, Γ, stk, svs, r, Rs.sat_mono (Rs.sat_bind.1 q) (fun Γ1 c q1 H1 r1 => q1 H1 r1) fun _ z => z⟩
/-- and, or, not as values, all True or False -/
def andE (f g : X1) : X1 := fun Γ => (f Γ).bind fun Γ1 e => match e with
  | .p (.bl true) => g Γ1
  | .p (.bl false) => .ok Γ1 (.p (.bl false))
  | _ => .bad
def orE (f g : X1) : X1 := fun Γ => (f Γ).bind fun Γ1 e => match e with
  | .p (.bl true) => .ok Γ1 (.p (.bl true))
  | .p (.bl false) => g Γ1
  | _ => .bad
def notE : G → E → Rs E := fun Γ e => match e with
  | .p (.bl c) => .ok Γ (.p (.bl (!c)))
  | _ => .bad
theorem q_one {op pos} (h : QE X B W a f) : QE X B W (.BoolOp op [a] pos) f := pe_one h
theorem q_and {pos} (ha : QE X B W a f) (hb : QE X B W (.BoolOp .And (b :: rest) pos) h) : QE X B W (.BoolOp .And (a :: b :: rest) pos) (andE f h) :=
  PE.imp (pe_and ha hb) fun σ H Q ⟨β, Γ, stk, svs, r, q⟩ => by
    refine ⟨β, Γ, stk, svs, r, Rs.sat_mono (Rs.sat_bind.1 q) (fun Γ1 x q1 H1 v r1 => ?_) fun _ z => z⟩
    split at q1
    · exact ⟨true, r1.topP.bl_inv, by rw [if_pos rfl]; exact ⟨β, Γ1, stk, svs, r1.popE, q1⟩⟩
    · exact ⟨false, r1.topP.bl_inv, by rw [if_neg Bool.false_ne_true]; exact q1 H1 _ (r1.popE.pushP (.bl false))⟩
    · exact q1.elim
theorem q_or {pos} (ha : QE X B W a f) (hb : QE X B W (.BoolOp .Or (b :: rest) pos) h) : QE X B W (.BoolOp .Or (a :: b :: rest) pos) (orE f h) :=
  PE.imp (pe_or ha hb) fun σ H Q ⟨β, Γ, stk, svs, r, q⟩ => by
    refine ⟨β, Γ, stk, svs, r, Rs.sat_mono (Rs.sat_bind.1 q) (fun Γ1 x q1 H1 v r1 => ?_) fun _ z => z⟩
    split at q1
    · exact ⟨true, r1.topP.bl_inv, by rw [if_pos rfl]; exact q1 H1 _ (r1.popE.pushP (.bl true))⟩
    · exact ⟨false, r1.topP.bl_inv, by rw [if_neg Bool.false_ne_true]; exact ⟨β, Γ1, stk, svs, r1.popE, q1⟩⟩
    · exact q1.elim
theorem q_not {pos} (ha : QE X B W a f) : QE X B W (.UnaryOp .Not a pos) (e1 notE f) :=
  q_1 (r := fun x H Q => ∃ c, x = .bl c ∧ Q (.bl (!c)) H) ha (fun t h => pe_not h) fun β Γ stk σ svs H a x Q r q => by
    unfold notE at q
    split at q
    · exact ⟨_, r.topP.bl_inv, q H _ (r.popE.pushP (.bl _))⟩
    · exact q.elim
def ifE (t : XB) (f g : X1) : X1 := fun Γ => (t Γ).bind fun Γ1 c => if c then f Γ1 else g Γ1
theorem q_if {pos} (hc : QT X B W c fb) (ha : QE X B W a f) (hb : QE X B W b h) : QE X B W (.IfExp c a b pos) (ifE fb f h) :=
  PE.imp (pe_ifExp hc ha hb) fun σ H Q ⟨β, Γ, stk, svs, r, q⟩ => by
    refine ⟨β, Γ, stk, svs, r, Rs.sat_mono (Rs.sat_bind.1 q) (fun Γ1 c q1 H1 r1 => ?_) fun _ z => z⟩
    cases c with
    | true => exact ⟨β, Γ1, stk, svs, r1, q1⟩
    | false => exact ⟨β, Γ1, stk, svs, r1, q1⟩
/-- is None, is not None -/
def isN : G → E → Rs E := fun Γ e => match e with
  | .p .non => .ok Γ (.p (.bl true))
  | .p _ => .ok Γ (.p (.bl false))
  | .o _ => .ok Γ (.p (.bl false))
  | .s (.p _) => .bad
  | .s _ => .ok Γ (.p (.bl false))
  | .b _ => .bad
/-! ### items -/
def idx : G → E → E → Rs E := fun Γ a b => match b, pseq Γ a with
  | .p (.int i), some xs => (match atI xs i with | some x => .ok Γ (.p x) | none => .bad)
  | _, _ => .bad
theorem RPs.atI {K : PySem.W.Frag} {H : Hp} {xs : List P} {vs : List V} {i : Int} {x : P} (r : RPs K H xs vs) (h : L2.atI xs i = some x) : ∃ v, L2.atI vs i = some v ∧ RP K H x v := by
  unfold L2.atI at h ⊢
  rw [← r.length]
  cases q : ixN xs.length i with
  | none => rw [q] at h; cases h
  | some j => rw [q] at h; exact r.get h
theorem q_idx {pos} (ha : QE X B W a f) (hb : QE X B W b h) (hs : PlainIx b) : QE X B W (.Subscript a b pos) (e2 idx f h) :=
  q_2 ha hb (fun t u x y => pe_ix ix_seq x y hs) fun β Γ stk σ svs H a b x y Q r q => by
    unfold idx at q
    split at q
    · rename_i i xs hxs
      split at q
      · rename_i z hz
        have h1 := r.topP.int_inv
        subst h1
        obtain ⟨p, vs, rfl, hp, hr⟩ := r.popE.pseq hxs
        obtain ⟨v, hv, rv⟩ := hr.atI hz
        have fin := q H v (r.popE.popE.pushP rv)
        rcases hp with hp | hp
        · exact .inr (.inl ⟨p, vs, i, v, rfl, rfl, hp, hv, fin⟩)
        · exact .inl ⟨p, vs, i, v, rfl, rfl, hp, hv, fin⟩
      · exact q.elim
    · exact q.elim
end
end Kv

set_option Elab.async false
set_option linter.all false
set_option maxRecDepth 100000
set_option maxHeartbeats 2000000
set_option autoImplicit false
/-! Kv, part F: slices, built-ins by name, methods of lists, dicts. -/
namespace Kv
open PySem PySem.Spec L2
variable [Tbl]
section
variable {K : PySem.W.Frag} {β : Base} {Γ : G} {stk : List E} {σ : SS} {svs : List V} {H : Hp}
/-- an object that is at hand alone is changed in place; what stands above it goes into it -/
theorem Rel.mutStk {es : List E} {vs : List V} {d : D} {x : V} (r : Rel K β Γ (es.reverse ++ (.o d :: stk)) σ (vs.reverse ++ (x :: svs)) H) (hl : es.length = vs.length) :
    ∃ m M1 T : AP, RD K H d x m ∧ RK K H T σ es vs M1 ∧ Sep m M1 ∧
      ∀ (a : Addr) (ob : HO) (d' : D) (m' : AP), m a → ((∃ xs, ob = .lst xs) ∨ ∃ ps, ob = .dK ps) → RD K (upd H a ob) d' x m' → Le m' (U m M1) → Rel K β Γ (.o d' :: stk) σ (x :: svs) (upd H a ob) := by
  obtain ⟨M, N, T, h1, h2, h3, h4, h5⟩ := r.ex
  obtain ⟨M1, M2, q1, q2, q3, q4, q5⟩ := RK.front h2 hl
  cases q2 with
  | cons h q2 s l1 l2 =>
    rename_i m M3
    cases h with
    | o b =>
      refine ⟨m, M1, T, b, q1, (q3.mono Le.rfl l1).symm, fun a ob d' m' ha hm hd hl1 => ?_⟩
      have mN : Le m N := l1.trans q5
      have hob := hm
      replace hm : MutE H a := h5.live a (.inr (mN a ha))
      have nR : ¬ (U M T) a := fun z => z.elim (fun z => h3 a z (mN a ha)) fun t => h4 a (.inr (mN a ha)) t
      have nK : ¬ (U M3 T) a := fun z => z.elim (fun z => s a ha z) fun t => h4 a (.inr (mN a ha)) t
      have big : Le (U m M1) N := Le.u mN q4
      refine ⟨⟨M, U m' M3, T, h1.kp (kp_upd hm nR), .cons (.o hd) (q2.kp (kp_upd hm nK)) ?_ Le.inl Le.inr, ?_, ?_, ?_⟩, r.prot⟩
      · exact (Sep.u s (q3.mono Le.rfl l2)).mono hl1 Le.rfl
      · exact Sep.ur (h3.mono Le.rfl (hl1.trans big)) (h3.mono Le.rfl (l2.trans q5))
      · exact h4.mono (Le.u Le.inl (Le.u ((hl1.trans big).trans Le.inr) ((l2.trans q5).trans Le.inr))) Le.rfl
      · have all : Le (U M (U m' M3)) (U M N) := Le.u Le.inl (Le.u ((hl1.trans big).trans Le.inr) ((l2.trans q5).trans Le.inr))
        have nn : ∀ c, H c ≠ none → upd H a ob c ≠ none := fun c h => by
          unfold upd; split
          · simp
          · exact h
        refine ⟨fun c o nt z f => ?_, fun c z => ?_, fun c z => h5.own c (all c z), h5.shr, fun c z => mutE_upd hob (h5.live c (all c z)), fun c z => mutE_upd hob (h5.liveT c z), tabs_upd h5.tabs (.inr hm)⟩
        · have k := h5.keep c o nt z f
          rw [upd_ne]; exact k
          rintro rfl
          rcases h5.own c (.inr (mN c ha)) with w | w
          · exact f w
          · exact w o nt z
        · refine h5.old c fun o nt e => ?_
          by_cases hca : c = a
          · subst hca
            rcases hob with ⟨xs, rfl⟩ | ⟨xs, rfl⟩
            · exact z _ (fun _ q => by cases q) upd_same
            · exact z _ (fun _ q => by cases q) upd_same
          · exact z o nt (by rw [upd_ne hca]; exact e)
/-- one more member -/
theorem RDs.snoc {ds : List D} {vs : List V} {d : D} {v : V} {F G' : AP} (h : RDs K H ds vs F) (h' : RD K H d v G') (s : Sep F G') : RDs K H (ds ++ [d]) (vs ++ [v]) (U F G') :=
  RDs.app h (.cons (G := No) h' .nil Sep.nor Le.rfl Le.no) s Le.inl Le.inr
/-- the list at hand has one more member -/
theorem Rel.grow {e : E} {v : V} {ds : List D} {d : D} {p : Addr} {acc : List V} (r : Rel K β Γ (e :: .o (.lst ds) :: stk) σ (v :: .ref p :: svs) H) (hd : gat [e] = some [d]) (hp : H p = some (.lst acc)) :
    Rel K β Γ (.o (.lst (ds ++ [d])) :: stk) σ (.ref p :: svs) (upd H p (.lst (acc ++ [v]))) := by
  obtain ⟨m, M1, T, h1, h2, s, put⟩ := Rel.mutStk (es := [e]) (vs := [v]) r rfl
  cases h1 with
  | lst a b c f g =>
    rename_i vs G'
    rw [hp] at a; cases a
    have h3 := h2.gat hd
    cases h3 with
    | cons h3 h4 s4 l4 l5 =>
      have sg : Sep G' M1 := s.mono c Le.rfl
      refine put p _ _ (U m M1) f (.inl ⟨_, rfl⟩) (.lst (G := U G' M1) upd_same (RDs.snoc (b.kp (kp_upd (.inl ⟨_, hp⟩) g)) ((h3.kp (kp_upd (.inl ⟨_, hp⟩) fun z => s p f (l4 _ z))).mono l4) sg) (Le.u (c.trans Le.inl) Le.inr) (.inl f) ?_) Le.rfl
      exact fun z => z.elim g fun z => s p f z
end
section
variable {X : Cx} {B : List Nat} {β : Base} {W : XK} {e a b c ee : Expr} {es : List Expr} {f h : X1}
/-! ### slices -/
abbrev XO := G → Rs (Option Int)
def noP : XO := fun Γ => .ok Γ none
def soP (f : X1) : XO := fun Γ => (f Γ).bind fun Γ1 e => match e with
  | .p (.int i) => .ok Γ1 (some i)
  | _ => .bad
def tOp' (K : PySem.W.Frag) (mg : Str → Option Value) (W : XK) (f : XO) : TO := fun σ H Q => ∃ (β : Base) (Γ : G) (stk : List E) (svs : List V), Rel K β Γ stk σ svs H ∧ (f Γ).sat (fun Γ' c => ∀ H', Rel K β Γ' stk σ svs H' → Q c H') (ExW mg β W)
abbrev QO (X : Cx) (B : List Nat) (W : XK) (e : Option Expr) (f : XO) : Prop := PO X e (tOp' X.K X.mg W f)
theorem PO.imp {e : Option Expr} {t t' : TO} (h : PO X e t) (i : ∀ σ H Q, t' σ H Q → t σ H Q) : PO X e t' := ⟨fun pins s σ H Q I q => h.run pins s σ H Q I (i σ H Q q)⟩
theorem q_nop : QO X B W none noP := PO.imp po_none fun σ H Q ⟨β, Γ, stk, svs, r, q⟩ => q H r
theorem q_sop (ha : QE X B W a f) : QO X B W (some a) (soP f) := PO.imp (po_some ha) fun σ H Q ⟨β, Γ, stk, svs, r, q⟩ => by
  refine ⟨β, Γ, stk, svs, r, Rs.sat_mono (Rs.sat_bind.1 q) (fun Γ1 x q1 H1 v r1 => ?_) fun _ z => z⟩
  split at q1
  · exact ⟨_, r1.topP.int_inv, q1 H1 r1.popE⟩
  · exact q1.elim
def cut {α : Type} (xs : List α) (lo hi : Option Int) : List α := (xs.drop (HT.sIx xs.length 0 lo)).take (HT.sIx xs.length xs.length hi - HT.sIx xs.length 0 lo)
theorem RPs.drop {K : PySem.W.Frag} {H : Hp} : ∀ {xs : List P} {vs : List V} (n : Nat), RPs K H xs vs → RPs K H (xs.drop n) (vs.drop n)
  | _, _, 0, r => r
  | _, _, _ + 1, .nil => .nil
  | _, _, n + 1, .cons _ r => RPs.drop n r
theorem RPs.take {K : PySem.W.Frag} {H : Hp} : ∀ {xs : List P} {vs : List V} (n : Nat), RPs K H xs vs → RPs K H (xs.take n) (vs.take n)
  | _, _, 0, _ => .nil
  | _, _, _ + 1, .nil => .nil
  | _, _, n + 1, .cons h r => .cons h (RPs.take n r)
theorem RPs.cut {K : PySem.W.Frag} {H : Hp} {xs : List P} {vs : List V} (r : RPs K H xs vs) (lo hi : Option Int) : RPs K H (Kv.cut xs lo hi) (cutV vs lo hi) := by
  unfold Kv.cut cutV
  rw [r.length]
  exact (r.drop _).take _
theorem RPs.rev {K : PySem.W.Frag} {H : Hp} {xs : List P} {vs : List V} (r : RPs K H xs vs) : RPs K H xs.reverse vs.reverse := by
  induction r using RPs.rec (motive_1 := fun _ _ _ => True) with
  | non => trivial
  | bl => trivial
  | int => trivial
  | str => trivial
  | tup => trivial
  | nil => exact .nil
  | cons h _ _ ih => rw [List.reverse_cons, List.reverse_cons]; exact ih.app (.cons h .nil)
theorem sl_tupF : SlR X (fun x lo hi H Q => ∃ a xs, x = .ref a ∧ SqT X.K H a xs ∧ (HT.sIx xs.length 0 lo = 0 ∧ HT.sIx xs.length xs.length hi = xs.length → Q (.ref a) H) ∧
    (¬ (HT.sIx xs.length 0 lo = 0 ∧ HT.sIx xs.length xs.length hi = xs.length) → NewT (cutV xs lo hi) H Q)) := by
  intro pins s σ H x v vl vu lo hi sl Q I rx hs pl pu h
  obtain ⟨p, xs, rfl, hx, q1, q2⟩ := h
  by_cases hw : HT.sIx xs.length 0 lo = 0 ∧ HT.sIx xs.length xs.length hi = xs.length
  · exact sl_tupA pins s σ H _ v vl vu lo hi sl Q I rx hs pl pu ⟨p, xs, rfl, hx, q1, fun z => absurd hw z⟩
  · cases rx
    obtain ⟨its, r, ht, hz⟩ := I.tuple hx
    have hlen : its.toArray.size = xs.length := by rw [List.size_toArray]; exact r.length.symm
    refine ⟨"tuple", _, PyProof.Rows.slot_tuple_getitem.lookup, ht.typeIs, ?_⟩
    refine HT.getItem_tuple_cut ht hs pl pu (by rw [hlen]; exact hw) ?_ (by rw [hlen]; exact hz)
    rw [hlen]
    exact Inv.tupF (its := (its.drop (HT.sIx xs.length 0 lo)).take (HT.sIx xs.length xs.length hi - HT.sIx xs.length 0 lo)) I ((r.drop _).take _) (Nat.le_trans (cutV_length xs lo hi) hz) (q2 hw)
def slE (f : X1) (lo hi : XO) : X1 := fun Γ => (f Γ).bind fun Γ1 e => (lo Γ1).bind fun Γ2 l => (hi Γ2).bind fun Γ3 u => match val Γ3 e with
  | some (.p (.tup xs)) => .ok Γ3 (.p (.tup (cut xs l u)))
  | some (.lst ds) => (match unP ds with | some xs => .ok Γ3 (.o (.lst ((cut xs l u).map .p))) | none => .bad)
  | some (.fz xs) => .ok Γ3 (.o (.lst ((cut xs l u).map .p)))
  | _ => .bad
theorem cut_whole {xs : List P} {l u : Option Int} (h : HT.sIx xs.length 0 l = 0 ∧ HT.sIx xs.length xs.length u = xs.length) : cut xs l u = xs := by
  unfold cut
  rw [h.1, h.2]; simp
theorem q_sl {lo hi : Option Expr} {fl fh : XO} {p2 pos} (ha : QE X B W e f) (hl : QO X B W lo fl) (hh : QO X B W hi fh) : QE X B W (.Subscript e (.Slice lo hi none p2) pos) (slE f fl fh) :=
  PE.imp (pe_slice (sl_tupF.or sl_list) ha hl hh) fun σ H Q ⟨β, Γ, stk, svs, r, q⟩ => by
    refine ⟨β, Γ, stk, svs, r, Rs.sat_mono (Rs.sat_bind.1 q) (fun Γ1 x q1 H1 v r1 => ?_) fun _ z => z⟩
    refine ⟨β, Γ1, x :: stk, v :: svs, r1, Rs.sat_mono (Rs.sat_bind.1 q1) (fun Γ2 l q2 H2 r2 => ?_) fun _ z => z⟩
    refine ⟨β, Γ2, x :: stk, v :: svs, r2, Rs.sat_mono (Rs.sat_bind.1 q2) (fun Γ3 u q3 H3 r3 => ?_) fun _ z => z⟩
    split at q3
    · rename_i xs hx
      obtain ⟨F, k⟩ := r3.val hx
      cases k with
      | p k =>
        obtain ⟨p, vs, rfl, h1, h2⟩ := k.tup_inv
        refine .inl ⟨p, vs, rfl, h1.sq, fun hw => ?_, fun hw p' o hp ho => q3 _ _ (r3.popE.newTup hp (h2.cut l u) ho)⟩
        rw [← h2.length] at hw
        rw [cut_whole hw] at q3
        exact q3 _ _ (r3.popE.pushP (.tup h1 h2))
    · rename_i ds hx
      split at q3
      · rename_i xs hxs
        obtain ⟨F, k⟩ := r3.val hx
        cases k with
        | lst e1 k _ _ _ =>
          have := unP_eq hxs
          subst this
          exact .inr ⟨_, _, rfl, SqL.of e1, fun p hp => q3 _ _ (r3.popE.newLstP hp (k.toP.cut l u))⟩
      · exact q3.elim
    · rename_i xs hx
      obtain ⟨F, k⟩ := r3.val hx
      cases k with
      | fz e1 k => exact .inr ⟨_, _, rfl, e1.sq, fun p hp => q3 _ _ (r3.popE.newLstP hp (k.cut l u))⟩
    · exact q3.elim
/-- xs[::-1] of a list -/
def revE : G → E → Rs E := fun Γ e => match val Γ e with
  | some (.lst ds) => (match unP ds with | some xs => .ok Γ (.o (.lst (xs.reverse.map .p))) | none => .bad)
  | some (.fz xs) => .ok Γ (.o (.lst (xs.reverse.map .p)))
  | _ => .bad
theorem q_rev {k : Nat} {p1 p2 p3 pos : Pos} (ha : QE X B W e f) : QE X B W (.Subscript e (.Slice none none (some (.UnaryOp .USub (.Constant (.int 1) k p1) p2)) p3) pos) (e1 revE f) :=
  q_1 (r := fun x H Q => ∃ a xs, x = .ref a ∧ SqL X.K H a xs ∧ ∀ p, H p = none → Q (.ref p) (upd H p (.lst xs.reverse))) ha (fun t h => pe_revL h) fun β Γ stk σ svs H a x Q r q => by
    unfold revE at q
    split at q
    · rename_i ds hx
      split at q
      · rename_i xs hxs
        obtain ⟨F, k⟩ := r.val hx
        cases k with
        | lst e1 k _ _ _ =>
          have := unP_eq hxs
          subst this
          exact ⟨_, _, rfl, SqL.of e1, fun p hp => q _ _ (r.popE.newLstP hp k.toP.rev)⟩
      · exact q.elim
    · rename_i xs hx
      obtain ⟨F, k⟩ := r.val hx
      cases k with
      | fz e1 k => exact ⟨_, _, rfl, e1.sq, fun p hp => q _ _ (r.popE.newLstP hp k.rev)⟩
    · exact q.elim

/-! ### built-ins by name -/
theorem q_b1 {r : List V → Hp → VK → Prop} {g : G → E → Rs E} (ha : QE X B W a f) (hr : ∀ t, PA X [a] t → PE X ee (fun σ H Q => t σ H fun vs H1 => r vs H1 Q)) (ok : Ok1 X.K X.mg B W (fun x => r [x]) g)
    (hs : starEach [a] X.env = (false, eval a X.env) :: starEach [] X.env := by rfl) : QE X B W ee (e1 g f) :=
  PE.imp (hr _ (pa_cons ha pa_nil hs)) fun σ H Q ⟨β, Γ, stk, svs, r0, q⟩ =>
    ⟨β, Γ, stk, svs, r0, Rs.sat_mono (Rs.sat_bind.1 q) (fun Γ1 x q1 H1 v r1 => ok β Γ1 stk σ svs H1 x v Q r1 q1) fun _ z => z⟩
theorem q_b2 {r : List V → Hp → VK → Prop} {g : G → E → E → Rs E} (ha : QE X B W a f) (hb : QE X B W b h) (hr : ∀ t, PA X [a, b] t → PE X ee (fun σ H Q => t σ H fun vs H1 => r vs H1 Q)) (ok : Ok2 X.K X.mg B W (fun x y => r [x, y]) g)
    (hs : starEach [a, b] X.env = (false, eval a X.env) :: starEach [b] X.env := by rfl) (hs2 : starEach [b] X.env = (false, eval b X.env) :: starEach [] X.env := by rfl) : QE X B W ee (e2 g f h) :=
  PE.imp (hr _ (pa_cons ha (pa_cons hb pa_nil hs2) hs)) fun σ H Q ⟨β, Γ, stk, svs, r0, q⟩ =>
    ⟨β, Γ, stk, svs, r0, Rs.sat_mono (Rs.sat_bind.1 q) (fun Γ1 x q1 H1 v r1 =>
      ⟨β, Γ1, x :: stk, v :: svs, r1, Rs.sat_mono (Rs.sat_bind.1 q1) (fun Γ2 y q2 H2 w r2 => ok β Γ2 stk σ svs H2 x y v w Q r2 q2) fun _ z => z⟩) fun _ z => z⟩
/-- len -/
def lenE : G → E → Rs E := fun Γ e => match slen Γ e with
  | some n => .ok Γ (.p (.int n))
  | none => .bad
theorem ok_len {mg : Str → Option Value} {K : PySem.W.Frag} : Ok1 K mg B W (fun x H Q => ∃ p ys, [x] = [V.ref p] ∧ (SqL K H p ys ∨ SqT K H p ys) ∧ Q (.int ys.length) H) lenE := fun β Γ stk σ svs H a x Q r q => by
  unfold lenE at q
  split at q
  · rename_i n hn
    obtain ⟨p, vs, rfl, h1, rfl⟩ := r.slen' hn
    exact ⟨p, vs, rfl, h1, q H _ (r.popE.pushP (.int _))⟩
  · exact q.elim
def lenS : G → E → Rs E := fun Γ e => match e with
  | .p (.str s) => if s.length ≤ 1000000 then .ok Γ (.p (.int s.length)) else .bad
  | _ => .bad
theorem ok_lenS {mg : Str → Option Value} {K : PySem.W.Frag} : Ok1 K mg B W (fun x H Q => ∃ z, [x] = [V.str z] ∧ z.length ≤ sizeLine ∧ Q (.int z.length) H) lenS := fun β Γ stk σ svs H a x Q r q => by
  unfold lenS at q
  split at q
  · split at q
    · rename_i hz
      have h1 := r.topP.str_inv
      subst h1
      exact ⟨_, rfl, Nat.le_trans hz (by decide), q H _ (r.popE.pushP (.int _))⟩
    · exact q.elim
  · exact q.elim
/-- tuple -/
def tupO : G → E → Rs E := fun Γ e => match pseq Γ e with
  | some xs => .ok Γ (.p (.tup xs))
  | none => .bad
theorem call_tupF : CallR X (.type "tuple") (fun xs H Q => ∃ p ys, xs = [.ref p] ∧ ((SqL X.K H p ys ∧ NewT ys H Q) ∨ (SqT X.K H p ys ∧ Q (.ref p) H))) := by
  intro pins s σ H xs us Q I r h
  obtain ⟨p, ys, rfl, h⟩ := h
  rcases h with ⟨hq, q⟩ | ⟨hq, q⟩
  · obtain ⟨u, rfl, rx⟩ := vals1 r
    cases rx
    obtain ⟨its, r', pl, hz⟩ := I.list hq
    have hlen := r'.length
    refine call_tuple_list pl.isList (fun h' kp => ?_) (by simp only [List.size_toArray] <;> omega)
    exact Inv.tupF (I.kept (t' := s.toks) kp) r' hz q
  · exact call_tupleT pins s σ H _ us Q I r ⟨p, ys, rfl, hq, q⟩
theorem ok_tup : Ok1 X.K X.mg B W (fun x H Q => ∃ p ys, [x] = [V.ref p] ∧ ((SqL X.K H p ys ∧ NewT ys H Q) ∨ (SqT X.K H p ys ∧ Q (.ref p) H))) tupO := fun β Γ stk σ svs H a x Q r q => by
  unfold tupO at q
  split at q
  · rename_i xs hx
    by_cases ht : ∃ ys, Kv.val Γ a = some (.p (.tup ys))
    · obtain ⟨ys, hy⟩ := ht
      have : xs = ys := by
        unfold pseq at hx
        rw [hy] at hx
        exact (Option.some.inj hx).symm
      subst this
      obtain ⟨F, k⟩ := r.val hy
      cases k with
      | p k =>
        obtain ⟨p, vs, rfl, h1, h2⟩ := k.tup_inv
        exact ⟨p, vs, rfl, .inr ⟨h1.sq, q H _ (r.popE.pushP (.tup h1 h2))⟩⟩
    · unfold pseq at hx
      split at hx
      · rename_i ys hy
        exact absurd ⟨ys, hy⟩ ht
      · rename_i ds hy
        obtain ⟨F, k⟩ := r.val hy
        cases k with
        | lst e1 k _ _ _ =>
          have := unP_eq hx
          subst this
          exact ⟨_, _, rfl, .inl ⟨SqL.of e1, fun p o hp ho => q _ _ (r.popE.newTup hp k.toP ho)⟩⟩
      · rename_i ds hy
        obtain ⟨F, k⟩ := r.val hy
        cases k with
        | tup e1 k =>
          have := unP_eq hx
          subst this
          exact ⟨_, _, rfl, .inr ⟨e1.sq, q H _ (r.popE.pushP (.tup e1 k.toP))⟩⟩
      · rename_i ys hy
        obtain ⟨F, k⟩ := r.val hy
        cases hx
        cases k with
        | fz e1 k => exact ⟨_, _, rfl, .inl ⟨e1.sq, fun p o hp ho => q _ _ (r.popE.newTup hp k ho)⟩⟩
      · cases hx
  · exact q.elim
/-- list -/
def lstO : G → E → Rs E := fun Γ e => match pseq Γ e with
  | some xs => .ok Γ (.o (.lst (xs.map .p)))
  | none => .bad
theorem ok_lst {mg : Str → Option Value} {K : PySem.W.Frag} : Ok1 K mg B W (fun x H Q => ∃ p ys, [x] = [V.ref p] ∧ (SqL K H p ys ∨ SqT K H p ys) ∧ ∀ l, H l = none → Q (.ref l) (upd H l (.lst ys))) lstO := fun β Γ stk σ svs H a x Q r q => by
  unfold lstO at q
  split at q
  · rename_i xs hx
    obtain ⟨p, vs, rfl, h1, h2⟩ := r.pseq hx
    exact ⟨p, vs, rfl, h1.symm, fun l hl => q _ _ (r.popE.newLstP hl h2)⟩
  · exact q.elim
/-- int, str of a number, abs, max of two -/
def intO : G → E → Rs E := fun Γ e => match e with
  | .p (.int i) => .ok Γ (.p (.int i))
  | .p (.bl k) => .ok Γ (.p (.int (if k then 1 else 0)))
  | _ => .bad
theorem ok_int {mg : Str → Option Value} {K : PySem.W.Frag} : Ok1 K mg B W (fun x H Q => (∃ i, [x] = [V.int i] ∧ Q (.int i) H) ∨ ∃ k, [x] = [V.bl k] ∧ Q (.int (if k then 1 else 0)) H) intO := fun β Γ stk σ svs H a x Q r q => by
  unfold intO at q
  split at q
  · have h1 := r.topP.int_inv
    subst h1
    exact .inl ⟨_, rfl, q H _ (r.popE.pushP (.int _))⟩
  · have h1 := r.topP.bl_inv
    subst h1
    exact .inr ⟨_, rfl, q H _ (r.popE.pushP (.int _))⟩
  · exact q.elim
def strO : G → E → Rs E := fun Γ e => match e with
  | .p (.int i) => if i.natAbs.log2 < 1920 then .ok Γ (.p (.str (toString i))) else .bad
  | _ => .bad
theorem ok_str {mg : Str → Option Value} {K : PySem.W.Frag} : Ok1 K mg B W (fun x H Q => ∃ i, [x] = [V.int i] ∧ i.natAbs.log2 < 1920 ∧ Q (.str (toString i)) H) strO := fun β Γ stk σ svs H a x Q r q => by
  unfold strO at q
  split at q
  · split at q
    · rename_i hz
      have h1 := r.topP.int_inv
      subst h1
      exact ⟨_, rfl, hz, q H _ (r.popE.pushP (.str _))⟩
    · exact q.elim
  · exact q.elim
def absO : G → E → Rs E := fun Γ e => match e with
  | .p (.int i) => .ok Γ (.p (.int (if i < 0 then -i else i)))
  | _ => .bad
theorem ok_abs {mg : Str → Option Value} {K : PySem.W.Frag} : Ok1 K mg B W (fun x H Q => ∃ i, [x] = [V.int i] ∧ Q (.int (if i < 0 then -i else i)) H) absO := fun β Γ stk σ svs H a x Q r q => by
  unfold absO at q
  split at q
  · have h1 := r.topP.int_inv
    subst h1
    exact ⟨_, rfl, q H _ (r.popE.pushP (.int _))⟩
  · exact q.elim
abbrev maxO := opI fun i j => some (.int (if j > i then j else i))
theorem ok_max {mg : Str → Option Value} {K : PySem.W.Frag} : Ok2 K mg B W (fun x y H Q => ∃ i j, [x, y] = [V.int i, V.int j] ∧ Q (.int (if j > i then j else i)) H) maxO := fun β Γ stk σ svs H a b x y Q r q => by
  unfold maxO opI at q
  split at q
  · have h1 := r.topP.int_inv
    have h2 := r.popE.topP.int_inv
    subst h1 h2
    exact ⟨_, _, rfl, q H _ (r.popE.popE.pushP (.int _))⟩
  · exact q.elim
/-- all of a list of True, False -/
def unB : List D → Option (List Bool)
  | [] => some []
  | .p (.bl b) :: r => (unB r).map (b :: ·)
  | _ :: _ => none
theorem unB_map (bs : List Bool) : unB (bs.map fun b => D.p (.bl b)) = some bs := by
  induction bs with
  | nil => rfl
  | cons b bs ih => simp [unB, ih]
theorem RDs.bls {K : PySem.W.Frag} {H : Hp} {F : AP} : ∀ {ds : List D} {vs : List V} {bs : List Bool}, RDs K H ds vs F → unB ds = some bs → vs = bs.map V.bl
  | [], _, _, .nil, e => by cases e; rfl
  | .p (.bl b) :: r, _, _, .cons h k _ _ _, e => by
    have e : (unB r).map (b :: ·) = some _ := e
    cases q : unB r with
    | none => rw [q] at e; cases e
    | some zs =>
      rw [q] at e; cases e
      cases h with
      | p h => rw [h.bl_inv, RDs.bls (F := F) (k.mono (by assumption)) q]; rfl
def allO : G → E → Rs E := fun Γ e => match val Γ e with
  | some (.lst ds) => (match unB ds with | some bs => .ok Γ (.p (.bl (bs.all id))) | none => .bad)
  | _ => .bad
theorem ok_all {mg : Str → Option Value} {K : PySem.W.Frag} : Ok1 K mg B W (fun x => rAll K [x]) allO := fun β Γ stk σ svs H a x Q r q => by
  unfold allO at q
  split at q
  · rename_i ds hx
    split at q
    · rename_i bs hb
      obtain ⟨F, k⟩ := r.val hx
      cases k with
      | lst e1 k _ _ _ =>
        have := k.bls hb
        subst this
        exact ⟨_, bs, rfl, SqL.of e1, q H _ (r.popE.pushP (.bl _))⟩
    · exact q.elim
  · exact q.elim
/-- isinstance(x, T), T a built-in type's name -/
def kind : D → String
  | .p .non => "NoneType"
  | .p (.bl _) => "bool"
  | .p (.int _) => "int"
  | .p (.str _) => "str"
  | .p (.tup _) => "tuple"
  | .tup _ => "tuple"
  | .lst _ => "list"
  | .fz _ => "list"
  | .dct _ => "dict"
theorem TupT.ty {K : PySem.W.Frag} {H : Hp} {a : Addr} {vs : List V} (h : TupT K H a vs) : TyX K H (.ref a) (.type "tuple") := by
  rcases h with ⟨o, h, _⟩ | ⟨o, its, n, h1, h2, _⟩
  · exact .fTuple h
  · exact .kTuple h1 h2
theorem RD.ty {K : PySem.W.Frag} {H : Hp} {d : D} {v : V} {F : AP} (h : RD K H d v F) : TyX K H v (.type (kind d)) := by
  cases h with
  | p h => cases h with
    | non => exact .base .non
    | bl b => exact .base (.bl b)
    | int i => exact .base (.int i)
    | str s => exact .base (.str s)
    | tup h _ => exact h.ty
  | lst h _ _ _ _ => exact .base (.lst h)
  | dct h _ _ _ _ => exact .base (.dK h)
  | tup h _ => exact h.ty
  | fz h _ =>
    rcases h with ⟨h, _⟩ | ⟨o, h⟩ | ⟨o, its, n, h1, h2, _⟩
    · exact .base (.lst h)
    · exact .base (.frz h)
    · exact .kList h1 h2
def isiO (T : String) : G → E → Rs E := fun Γ e => match val Γ e with
  | some d => (match kitB (kind d) T with | some b => .ok Γ (.p (.bl b)) | none => .bad)
  | none => .bad
theorem q_isi {T x : String} {p p2 pos : Pos} (hg : Gl X "isinstance") (hm : X.mg "isinstance" = none) (hgT : Gl X T) (hmT : X.mg T = none) (hvT : bootBuiltins T = some (.type T)) (ha : QE X B W a f)
    (hnT : (T : Str) ≠ "__name__" := by decide) (hdT : ((T : Str) == ("__debug__" : Str)) = false := by decide)
    (hs : starEach [a, .Name T p2] X.env = (false, eval a X.env) :: starEach [.Name T p2] X.env := by rfl) (hpl : (backTo pos (starEach [.Name T p2] X.env)).any (·.1) = false := by rfl) :
    QE X B W (.Call (.Name "isinstance" p) [a, .Name T p2] [] pos) (e1 (isiO T) f) :=
  PE.imp (pe_callB call_isi hg hm (by decide +kernel) (pa_cons ha (pa_cons (pe_bltn (v := .ty T) hgT hmT hvT rfl hnT hdT) pa_nil) hs) (he := hs) (hpl := hpl)) fun σ H Q ⟨β, Γ, stk, svs, r0, q⟩ => by
    refine ⟨β, Γ, stk, svs, r0, Rs.sat_mono (Rs.sat_bind.1 q) (fun Γ1 x q1 H1 v r1 => ?_) fun _ z => z⟩
    unfold isiO at q1
    split at q1
    · rename_i d hd
      split at q1
      · rename_i b hb
        obtain ⟨F, k⟩ := r1.val hd
        exact ⟨v, .ty T, _, _, b, rfl, .ty T, k.ty, kit_ty hb, q1 H1 _ (r1.popE.pushP (.bl _))⟩
      · exact q1.elim
    · exact q1.elim
/-- repr of data -/
def repO : G → E → Rs E := fun Γ e => match pyOf Γ e with
  | some d => if d.canLay0 = true ∧ d.showable = true ∧ d.depth ≤ 60 ∧ d.shown.length ≤ 1000000 then .ok Γ (.p (.str d.shown)) else .bad
  | none => .bad
end
end Kv

set_option Elab.async false
set_option linter.all false
set_option maxRecDepth 100000
set_option maxHeartbeats 2000000
set_option autoImplicit false
/-! Kv, part G: repr, methods of lists and tuples, dicts. -/
namespace Kv
open PySem PySem.Spec L2
variable [Tbl]
section
variable {X : Cx} {B : List Nat} {β : Base} {W : XK} {e a b c ee o : Expr} {es : List Expr} {f h : X1}
/-! ### repr -/
theorem call_repr (hgd : X.A.guards = some []) (hu : X.A.units + 64 < cLine) : CallR X (.builtin "repr") (fun xs H Q => ∃ v d, xs = [v] ∧ Dp X.K H v d ∧ (d.canLay0 = true ∧ d.showable = true ∧ d.depth ≤ 60 ∧ d.shown.length ≤ 1000000) ∧ Q (.str d.shown) H) := by
  intro pins s σ H xs us Q I r hq
  obtain ⟨v, d, rfl, hd, ⟨h1, h2, h3, h4⟩, q⟩ := hq
  obtain ⟨u, rfl, ru⟩ := vals1 r
  obtain ⟨as, rd⟩ := Dp.reads I d v u hd ru
  have hz : d.shown.length ≤ sizeLine := Nat.le_trans h4 (by decide)
  have fin : ∀ h' t tk, (∀ b o, s.heap.get? b = some o → h'.get? b = some o) → EP X pins σ Q (.str d.shown t) { s with heap := h', toks := tk } := fun h' t tk hk => ⟨.str _, H, I.kept (t' := tk) hk, ⟨t, rfl⟩, q⟩
  have same : ∀ t tk, EP X pins σ Q (.str d.shown t) { s with toks := tk } := fun t tk => fin s.heap t tk fun _ _ z => z
  cases hd with
  | non => cases ru; exact PySem.P.repr_of_none (same _ _)
  | bl k => cases ru; exact PySem.P.repr_of_bool (same _ _)
  | int i => obtain ⟨t, rfl⟩ := ru; exact PySem.P.repr_of_int (by simpa [PyData.showable] using h2) (same _ _)
  | str x => obtain ⟨t, rfl⟩ := ru; exact PySem.P.repr_of_str (same _ _) hz
  | lst k1 k2 =>
    cases ru
    exact repr_of_reads' rd h2 (PyData.noDict_hsm (PyData.hasDict_of_canLay _ h1)) hgd (by omega) (fun _ _ z => z) fin hz
  | tup k1 k2 =>
    cases ru
    exact repr_of_reads' rd h2 (PyData.noDict_hsm (PyData.hasDict_of_canLay _ h1)) hgd (by omega) (fun _ _ z => z) fin hz
theorem ok_rep {mg : Str → Option Value} {K : PySem.W.Frag} : Ok1 K mg B W (fun x H Q => ∃ v d, [x] = [v] ∧ Dp K H v d ∧ (d.canLay0 = true ∧ d.showable = true ∧ d.depth ≤ 60 ∧ d.shown.length ≤ 1000000) ∧ Q (.str d.shown) H) repO := fun β Γ stk σ svs H a x Q r q => by
  unfold repO at q
  split at q
  · rename_i d hd
    split at q
    · rename_i hz
      exact ⟨x, d, rfl, r.dp hd, hz, q H _ (r.popE.pushP (.str _))⟩
    · exact q.elim
  · exact q.elim
/-! ### methods of lists -/
def isL (Γ : G) (e : E) : Bool := match val Γ e with
  | some (.lst _) => true
  | some (.fz _) => true
  | _ => false
def isT (Γ : G) (e : E) : Bool := match val Γ e with
  | some (.p (.tup _)) => true
  | _ => false
/-- o.m(a): o is looked at, then a -/
def e2r (t : G → E → Bool) (g : G → E → E → Rs E) (f h : X1) : X1 := fun Γ => (f Γ).bind fun Γ1 a => if t Γ1 a then (h Γ1).bind fun Γ2 b => g Γ2 a b else .bad
def e1r (t : G → E → Bool) (g : G → E → Rs E) (f : X1) : X1 := fun Γ => (f Γ).bind fun Γ1 a => if t Γ1 a then g Γ1 a else .bad
theorem Rel.isL {K : PySem.W.Frag} {Γ : G} {stk : List E} {σ : SS} {svs : List V} {H : Hp} {x : E} {v : V} (r : Rel K β Γ (x :: stk) σ (v :: svs) H) (h : Kv.isL Γ x = true) : tyV K "list" v H := by
  unfold Kv.isL at h
  split at h
  · rename_i ds hx
    obtain ⟨F, k⟩ := r.val hx
    cases k with
    | lst e _ _ _ _ => exact .inl ⟨rfl, _, SqL.of e⟩
  · rename_i ds hx
    obtain ⟨F, k⟩ := r.val hx
    cases k with
    | fz e _ => exact .inl ⟨rfl, _, e.sq⟩
  · cases h
theorem Rel.isT {K : PySem.W.Frag} {Γ : G} {stk : List E} {σ : SS} {svs : List V} {H : Hp} {x : E} {v : V} (r : Rel K β Γ (x :: stk) σ (v :: svs) H) (h : Kv.isT Γ x = true) : ∃ p vs, v = .ref p ∧ TupT K H p vs := by
  unfold Kv.isT at h
  split at h
  · rename_i ds hx
    obtain ⟨F, k⟩ := r.val hx
    cases k with
    | p k => obtain ⟨p, vs, rfl, h1, _⟩ := k.tup_inv; exact ⟨p, vs, rfl, h1⟩
  · cases h
theorem q_m1 {r : V → List V → Hp → VK → Prop} {g : G → E → E → Rs E} {m : Str} {apos cpos : Pos} (ho : QE X B W o f) (ha : QE X B W a h)
    (hr : ∀ t u, PE X o t → PA X [a] u → PE X (.Call (.Attribute o m apos) [a] [] cpos) (tBM X.K "list" r t u)) (ok : Ok2 X.K X.mg B W (fun x y => r x [y]) g)
    (hs : starEach [a] X.env = (false, eval a X.env) :: starEach [] X.env := by rfl) : QE X B W (.Call (.Attribute o m apos) [a] [] cpos) (e2r isL g f h) :=
  PE.imp (hr _ _ ho (pa_cons ha pa_nil hs)) fun σ H Q ⟨β, Γ, stk, svs, r0, q⟩ => by
    refine ⟨β, Γ, stk, svs, r0, Rs.sat_mono (Rs.sat_bind.1 q) (fun Γ1 x q1 H1 v r1 => ?_) fun _ z => z⟩
    split at q1
    · rename_i hL
      exact ⟨r1.isL hL, β, Γ1, x :: stk, v :: svs, r1, Rs.sat_mono (Rs.sat_bind.1 q1) (fun Γ2 y q2 H2 w r2 => ok β Γ2 stk σ svs H2 x y v w Q r2 q2) fun _ z => z⟩
    · exact q1.elim
theorem q_m0 {r : V → List V → Hp → VK → Prop} {g : G → E → Rs E} {m : Str} {apos cpos : Pos} (ho : QE X B W o f)
    (hr : ∀ t, PE X o t → PE X (.Call (.Attribute o m apos) [] [] cpos) (tBM0 X.K "list" r t)) (ok : Ok1 X.K X.mg B W (fun x => r x []) g) : QE X B W (.Call (.Attribute o m apos) [] [] cpos) (e1r isL g f) :=
  PE.imp (hr _ ho) fun σ H Q ⟨β, Γ, stk, svs, r0, q⟩ => by
    refine ⟨β, Γ, stk, svs, r0, Rs.sat_mono (Rs.sat_bind.1 q) (fun Γ1 x q1 H1 v r1 => ?_) fun _ z => z⟩
    split at q1
    · rename_i hL
      exact ⟨r1.isL hL, ok β Γ1 stk σ svs H1 x v Q r1 q1⟩
    · exact q1.elim
/-- append to a slot's own list -/
def appO : G → E → E → Rs E := fun Γ a b => match a with
  | .b i => (match Γ[i]?, gat [b] with
    | some (some (.o (.lst ds))), some [d] => if ds.length < 1000000 then .ok (Γ.set i (some (.o (.lst (ds ++ [d]))))) (.p .non) else .bad
    | _, _ => .bad)
  | _ => .bad
theorem ok_app {mg : Str → Option Value} {K : PySem.W.Frag} : Ok2 K mg B W (fun x y => rAppend x [y]) appO := fun β Γ stk σ svs H a b x y Q r q => by
  unfold appO at q
  split at q
  · rename_i i
    split at q
    · rename_i ds d hi hd
      split at q
      · rename_i hz
        obtain ⟨m, M1, T, h1, h2, s, put⟩ := Rel.mutate (es := [b]) (vs := [y]) r rfl hi
        cases h1 with
        | lst a1 b1 c1 f1 g1 =>
          rename_i vs p G'
          have h3 := h2.gat hd
          cases h3 with
          | cons h3 h4 s4 l4 l5 =>
            have sg : Sep G' M1 := s.mono c1 Le.rfl
            refine ⟨p, vs, y, rfl, rfl, a1, ?_, q _ _ ?_⟩
            · rw [← b1.length]; exact Nat.lt_of_lt_of_le hz (by decide)
            have nR := put p (.lst (vs ++ [y])) (.lst (ds ++ [d])) (U m M1) [] [] No f1 (.inl ⟨_, rfl⟩) ?_ .nil Sep.nor Le.rfl Le.no
            · exact nR.pushP .non
            refine .lst (G := U G' M1) upd_same (RDs.snoc (b1.kp (kp_upd (.inl ⟨_, a1⟩) g1)) ((h3.kp (kp_upd (.inl ⟨_, a1⟩) fun z => s p f1 (l4 _ z))).mono l4) sg) (Le.u (c1.trans Le.inl) Le.inr) (.inl f1) ?_
            exact fun z => z.elim g1 fun z => s p f1 z
      · exact q.elim
    · exact q.elim
  · exact q.elim
/-- one member taken out, the others -/
theorem RDs.out {K : PySem.W.Frag} {H : Hp} : ∀ {ds : List D} {vs : List V} {k : Nat} {d : D} {F : AP}, RDs K H ds vs F → ds[k]? = some d →
    ∃ (v : V) (F1 F2 : AP), vs[k]? = some v ∧ RD K H d v F1 ∧ RDs K H (ds.eraseIdx k) (vs.eraseIdx k) F2 ∧ Sep F1 F2 ∧ Le F1 F ∧ Le F2 F
  | _, _, _, _, _, .nil, e => by simp at e
  | _, _, 0, _, _, .cons h r s a b, e => by
    simp at e; subst e
    exact ⟨_, _, _, rfl, h, r, s, a, b⟩
  | _, _, k + 1, d, _, .cons (F := F0) h r s a b, e => by
    obtain ⟨v, F1, F2, h1, h2, h3, h4, h5, h6⟩ := RDs.out (k := k) (d := d) r (by simpa using e)
    refine ⟨v, F1, U F0 F2, by simpa using h1, h2, .cons h h3 (s.mono Le.rfl h6) Le.inl Le.inr, Sep.ur (s.mono Le.rfl h5).symm h4, h5.trans b, Le.u a (h6.trans b)⟩
def ofD : D → E
  | .p x => .p x
  | d => .o d
theorem RD.rs {K : PySem.W.Frag} {H : Hp} {T : AP} {d : D} {v : V} {F : AP} (h : RD K H d v F) : RS K H T (ofD d) v F := by
  cases d with
  | p x => cases h with | p h => exact .p h
  | lst _ => exact .o h
  | dct _ => exact .o h
  | tup _ => exact .o h
  | fz _ => exact .o h
theorem ofD_nb (d : D) : ∀ j, ofD d ≠ .b j := by cases d <;> (intro j z; cases z)
/-- a member of a slot's own list is popped -/
theorem Rel.popAt {K : PySem.W.Frag} {Γ : G} {stk : List E} {σ : SS} {svs : List V} {H : Hp} {i k : Nat} {x : V} {ds : List D} {d : D} (r : Rel K β Γ (.b i :: stk) σ (x :: svs) H) (hi : Γ[i]? = some (some (.o (.lst ds)))) (hk : ds[k]? = some d) :
    ∃ p vs v, x = .ref p ∧ H p = some (.lst vs) ∧ vs.length = ds.length ∧ vs[k]? = some v ∧ Rel K β (Γ.set i (some (.o (.lst (ds.eraseIdx k))))) (ofD d :: stk) σ (v :: svs) (upd H p (.lst (vs.eraseIdx k))) := by
  obtain ⟨m, M1, T, h1, h2, s, put⟩ := Rel.mutate (es := []) (vs := []) r rfl hi
  cases h1 with
  | lst a1 b1 c1 f1 g1 =>
    rename_i vs p G'
    obtain ⟨v, F1, F2, k1, k2, k3, k4, k5, k6⟩ := b1.out hk
    refine ⟨p, vs, v, rfl, a1, b1.length.symm, k1, ?_⟩
    have hm : (∃ xs, H p = some (.lst xs)) ∨ ∃ ps, H p = some (.dK ps) := .inl ⟨_, a1⟩
    refine put p _ (.lst (ds.eraseIdx k)) (U (fun z => z = p) F2) [ofD d] [v] F1 f1 (.inl ⟨_, rfl⟩) (.lst (G := F2) upd_same (k3.kp (kp_upd hm fun z => g1 (k6 _ z))) Le.inr (.inl rfl) fun z => g1 (k6 _ z)) ?_ ?_ ?_ ?_
    · have k2' := k2.kp (kp_upd (o := .lst (vs.eraseIdx k)) hm fun z => g1 (k5 _ z))
      exact .cons k2'.rs .nil Sep.nor Le.rfl Le.no
    · refine Sep.u (fun z e w => ?_) k4.symm
      subst e
      exact g1 (k5 _ w)
    · exact (Le.u (fun z e => by subst e; exact f1) (k6.trans c1)).trans Le.inl
    · exact (k5.trans c1).trans Le.inl
def popO : G → E → Rs E := fun Γ a => match a with
  | .b i => (match Γ[i]? with
    | some (some (.o (.lst ds))) => (match ds[ds.length - 1]? with | some d => .ok (Γ.set i (some (.o (.lst (ds.eraseIdx (ds.length - 1)))))) (ofD d) | none => .bad)
    | _ => .bad)
  | _ => .bad
theorem erase_last {α : Type} (xs : List α) : xs.eraseIdx (xs.length - 1) = xs.dropLast := by
  rw [List.eraseIdx_eq_take_drop_succ, List.dropLast_eq_take]
  by_cases h : xs.length = 0
  · have : xs = [] := List.length_eq_zero_iff.mp h
    subst this; rfl
  · rw [show xs.length - 1 + 1 = xs.length by omega]; simp
theorem ok_pop {mg : Str → Option Value} {K : PySem.W.Frag} : Ok1 K mg B W (fun x => rPop x []) popO := fun β Γ stk σ svs H a x Q r q => by
  unfold popO at q
  split at q
  · rename_i i
    split at q
    · rename_i ds hi
      split at q
      · rename_i d hd
        obtain ⟨p, vs, v, rfl, h1, hl, h2, r2⟩ := r.popAt hi hd
        rw [← hl] at h2 r2
        refine ⟨p, vs, v, rfl, rfl, h1, h2, ?_⟩
        rw [← erase_last]
        rw [← hl] at q
        exact q _ _ r2
      · exact q.elim
    · exact q.elim
  · exact q.elim
def popA : G → E → E → Rs E := fun Γ a b => match a, b with
  | .b i, .p (.int j) => (match Γ[i]? with
    | some (some (.o (.lst ds))) => if 0 ≤ j ∧ j < 1000000 then (match ds[j.toNat]? with | some d => .ok (Γ.set i (some (.o (.lst (ds.eraseIdx j.toNat))))) (ofD d) | none => .bad) else .bad
    | _ => .bad)
  | _, _ => .bad
theorem ok_popA {mg : Str → Option Value} {K : PySem.W.Frag} : Ok2 K mg B W (fun x y => rPopAt x [y]) popA := fun β Γ stk σ svs H a b x y Q r q => by
  unfold popA at q
  split at q
  · rename_i i j
    split at q
    · rename_i ds hi
      split at q
      · rename_i hj
        split at q
        · rename_i d hd
          have h0 := r.topP.int_inv
          subst h0
          obtain ⟨p, vs, v, rfl, h1, hl, h2, r2⟩ := r.popE.popAt hi hd
          refine ⟨p, vs, j, j.toNat, v, rfl, rfl, h1, by omega, by omega, ?_, h2, q _ _ r2⟩
          have := (List.getElem?_eq_some_iff.mp hd).1
          exact seqIndex_of hj.1 (by omega)
        · exact q.elim
      · exact q.elim
    · exact q.elim
  · exact q.elim
/-- the first place of a flat thing -/
def place (xs : List V) (y : V) : Option Nat := xs.findIdx? fun z => eqV z y
/-- the members of a list; of a tuple -/
def lseq (Γ : G) (e : E) : Option (List P) := match val Γ e with
  | some (.lst ds) => unP ds
  | some (.fz xs) => some xs
  | _ => none
def tseq (Γ : G) (e : E) : Option (List P) := match val Γ e with
  | some (.p (.tup xs)) => some xs
  | _ => none
theorem Rel.lseq {K : PySem.W.Frag} {Γ : G} {stk : List E} {σ : SS} {svs : List V} {H : Hp} {x : E} {v : V} {xs : List P} (r : Rel K β Γ (x :: stk) σ (v :: svs) H) (h : Kv.lseq Γ x = some xs) : ∃ (p : Addr) (vs : List V), v = .ref p ∧ SqL K H p vs ∧ RPs K H xs vs := by
  unfold Kv.lseq at h
  split at h
  · rename_i ds hx
    obtain ⟨F, k⟩ := r.val hx
    cases k with
    | lst e k _ _ _ =>
      have := unP_eq h
      subst this
      exact ⟨_, _, rfl, SqL.of e, k.toP⟩
  · rename_i ds hx
    obtain ⟨F, k⟩ := r.val hx
    cases h
    cases k with
    | fz e k => exact ⟨_, _, rfl, e.sq, k⟩
  · cases h
theorem Rel.tseq {K : PySem.W.Frag} {Γ : G} {stk : List E} {σ : SS} {svs : List V} {H : Hp} {x : E} {v : V} {xs : List P} (r : Rel K β Γ (x :: stk) σ (v :: svs) H) (h : Kv.tseq Γ x = some xs) : ∃ (p : Addr) (vs : List V), v = .ref p ∧ TupT K H p vs ∧ RPs K H xs vs := by
  unfold Kv.tseq at h
  split at h
  · rename_i ds hx
    obtain ⟨F, k⟩ := r.val hx
    cases h
    cases k with
    | p k => exact k.tup_inv
  · cases h
def ixO (sq : G → E → Option (List P)) : G → E → E → Rs E := fun Γ a b => match sq Γ a, b with
  | some xs, .p y => (match flats xs, y.fl with
    | some ws, some w => (match place ws w with | some j => .ok Γ (.p (.int (j : Nat))) | none => .bad)
    | _, _ => .bad)
  | _, _ => .bad
theorem ok_ix {mg : Str → Option Value} {K : PySem.W.Frag} {r' : V → List V → Hp → VK → Prop} {sq : G → E → Option (List P)} {R : Hp → Addr → List V → Prop}
    (hsq : ∀ (β : Base) (Γ : G) (stk : List E) (σ : SS) (svs : List V) (H : Hp) (x : E) (v : V) (xs : List P), Rel K β Γ (x :: stk) σ (v :: svs) H → sq Γ x = some xs → ∃ (p : Addr) (vs : List V), v = .ref p ∧ R H p vs ∧ RPs K H xs vs)
    (hr : ∀ (p : Addr) (ys : List V) (y : V) (j : Nat) (z : V) (H : Hp) (Q : VK), R H p ys → flatV y = true → ys.all flatV = true → ys[j]? = some z → eqV z y = true → (∀ (m : Nat) (z' : V), m < j → ys[m]? = some z' → eqV z' y = false) → Q (.int (j : Nat)) H → r' (.ref p) [y] H Q) :
    Ok2 K mg B W (fun x y => r' x [y]) (ixO sq) := fun β Γ stk σ svs H a b x y Q r q => by
  unfold ixO at q
  split at q
  · rename_i xs py hxs
    split at q
    · rename_i ws w hw hy
      split at q
      · rename_i j hj
        have h1 := r.topP.fl hy
        subst h1
        obtain ⟨p, vs, rfl, hp, hrp⟩ := hsq _ _ _ _ _ _ _ _ _ r.popE hxs
        have h2 := hrp.fl hw
        subst h2
        unfold place at hj
        obtain ⟨hlt, heq, hno⟩ := List.findIdx?_eq_some_iff_getElem.mp hj
        refine hr p vs y j vs[j] H Q hp (P.fl_flat hy) (flats_flat hw) (List.getElem?_eq_getElem hlt) heq (fun m z' hm hz => ?_) (q H _ (r.popE.popE.pushP (.int _)))
        obtain ⟨hl, rfl⟩ := List.getElem?_eq_some_iff.mp hz
        simpa using hno m hm
      · exact q.elim
    · exact q.elim
  · exact q.elim
/-- t.m(..), t a tuple -/
theorem pe_bmT {r : V → List V → Hp → VK → Prop} {name : Str} {id : String} {to : TE} {t : TA} {apos cpos : Pos} (pa : PlainAttrs "tuple") (slot : Slot "tuple" name id) (hty : typeOf (.builtin id) = pure (.type "method_descriptor")) (hm : MtR X id r) (ho : PE X o to) (ha : PA X (e :: es) t)
    (k1 : attributeBase o name X.env (eval o X.env) = eval o X.env := by rfl)
    (k2 : ((backTo cpos (starEach (e :: es) X.env)).all (fun x => !x.1) && (backToKw cpos (keywordEach [] X.env)).all (fun x => x.1.isSome)
      && decide ((e :: es).length + ([] : List Keyword).length + (if ([] : List Keyword).isEmpty then 0 else 1) < 30)) = true := by rfl)
    (k3 : (apos.endLine == cpos.line) = true := by rfl) (k4 : starEach (e :: es) X.env = (false, eval e X.env) :: starEach es X.env := by rfl) (k5 : (backTo cpos (starEach es X.env)).any (·.1) = false := by rfl) :
    PE X (.Call (.Attribute o name apos) (e :: es) [] cpos) (fun σ H Q => to σ H fun x H1 => (∃ p vs, x = V.ref p ∧ TupT X.K H1 p vs) ∧ t σ H1 fun xs H2 => r x xs H2 Q) := by
  refine ⟨fun pins s σ H Q I hq => ?_⟩
  refine wpAny_Call_method_late k1 k2 k3 rfl (thn (ho.run pins s σ H _ I hq) fun v s1 ⟨x, H1, I1, r1, ⟨p, vs, ex, hT⟩, q1⟩ => ?_)
  subst ex
  cases r1
  have key : ∃ ob, s1.heap.get? p = some ob ∧ ob.cls = .type "tuple" ∧ ob.dict = none := by
    rcases hT with ⟨o', h1, h2⟩ | ⟨o', its, n, h1, h2, h3, _⟩
    · obtain ⟨h4, _, its, _, ob, h5, h6, _⟩ := (show ObjOk X.prog X.w H1 s1.heap p (.frz o' (.tup vs)) from I1.hok p _ h1)
      rw [h4] at h5; cases h5
      exact ⟨o', h4, h6, h2⟩
    · exact ⟨o', I1.kIn p o' h1, h2, h3⟩
  obtain ⟨ob, g1, g2, g3⟩ := key
  refine ⟨"tuple", id, pa, slot, hty, ⟨ob, g1, g2⟩, fun a' e' => by cases e'; exact ⟨ob, g1, g3⟩, ?_⟩
  have hA := ha.run cpos pins s1 σ H1 _ I1 q1
  rw [k4] at hA ⊢
  refine Calls.callWith_builtin (by show (false || (backTo cpos (starEach es X.env)).any (·.1)) = false; rw [k5] <;> rfl) (Calls.evalArgs_plain ?_)
  exact thn hA fun us s2 ⟨vs2, H2, I2, r2, q2⟩ => hm pins s2 σ H2 (.ref p) vs2 _ us Q I2 rfl r2 q2
def rIxTu (K : PySem.W.Frag) : V → List V → Hp → VK → Prop := fun x xs H Q => ∃ (p : Addr) (ys : List V) (y : V) (j : Nat) (z : V), x = V.ref p ∧ xs = [y] ∧ SqT K H p ys ∧ flatV y = true ∧ ys.all flatV = true ∧ ys[j]? = some z ∧ eqV z y = true ∧
  (∀ (m : Nat) (z' : V), m < j → ys[m]? = some z' → eqV z' y = false) ∧ Q (.int (j : Nat)) H
theorem mt_ixTu : MtR X "tuple.index" (rIxTu X.K) := by
  intro pins s σ H x xs v us Q I rx rxs hq
  obtain ⟨p, ys, y, j, z, rfl, rfl, hs, fy, fys, hz, hzj, hno, q⟩ := hq
  cases rx
  obtain ⟨uy, rfl, ry⟩ := vals1 rxs
  obtain ⟨its, rv, ⟨⟨cls, dd, data, sl⟩, ho, hc, n, hd⟩, hlen⟩ := I.tuple hs
  simp only at hc hd
  subst hc hd
  obtain ⟨u, hu, ru⟩ := rv.get hz
  obtain ⟨hjl, hje⟩ := List.getElem?_eq_some_iff.mp hu
  have hvl := rv.length
  have hj : j < its.toArray.size := by simpa using hjl
  refine call_meets PySem.F.slot_tuple_index ⟨_, ho, rfl⟩ PySem.F.entry_tuple_index (PySem.F.args_tuple_index_2 _ _)
    (TI.tuple_indexAt p its.toArray n dd sl uy (eqU y) j hj ?_ ?_) ⟨ho, fun u' hu' => mem_eqAt ry fy rv fys u' (by simpa using hu'), ?_⟩
  · have e1 : its.toArray[j] = u := by simpa using hje
    rw [e1, eqU_of ru (flat_at fys hz)]
    exact hzj
  · intro m hm hmj
    have hmy : m < ys.length := by have : m < its.length := by simpa using hm
                                   omega
    have hy' : ys[m]? = some ys[m] := List.getElem?_eq_getElem hmy
    obtain ⟨u2, hu2, ru2⟩ := rv.get hy'
    obtain ⟨_, hme⟩ := List.getElem?_eq_some_iff.mp hu2
    have e1 : its.toArray[m] = u2 := by simpa using hme
    rw [e1, eqU_of ru2 (flat_at fys hy')]
    exact hno m _ hmj hy'
  · exact ⟨.int (j : Nat), H, I.tok _, ⟨_, rfl⟩, q⟩
theorem ok_ixL {mg : Str → Option Value} {K : PySem.W.Frag} : Ok2 K mg B W (fun x y => rIndex K x [y]) (ixO lseq) :=
  ok_ix (r' := rIndex K) (R := fun H p vs => SqL K H p vs) (fun β Γ stk σ svs H x v xs r h => r.lseq h) fun p ys y j z H Q hp f1 f2 f3 f4 f5 q => ⟨p, ys, y, j, z, rfl, rfl, hp, f1, f2, f3, f4, f5, q⟩
theorem q_ixT {apos cpos : Pos} (ho : QE X B W o f) (ha : QE X B W a h)
    (hr : ∀ t u, PE X o t → PA X [a] u → PE X (.Call (.Attribute o "index" apos) [a] [] cpos) (fun σ H Q => t σ H fun x H1 => (∃ p vs, x = V.ref p ∧ TupT X.K H1 p vs) ∧ u σ H1 fun xs H2 => rIxTu X.K x xs H2 Q))
    (hs : starEach [a] X.env = (false, eval a X.env) :: starEach [] X.env := by rfl) : QE X B W (.Call (.Attribute o "index" apos) [a] [] cpos) (e2r isT (ixO tseq) f h) :=
  PE.imp (hr _ _ ho (pa_cons ha pa_nil hs)) fun σ H Q ⟨β, Γ, stk, svs, r0, q⟩ => by
    refine ⟨β, Γ, stk, svs, r0, Rs.sat_mono (Rs.sat_bind.1 q) (fun Γ1 x q1 H1 v r1 => ?_) fun _ z => z⟩
    split at q1
    · rename_i hT
      refine ⟨r1.isT hT, β, Γ1, x :: stk, v :: svs, r1, Rs.sat_mono (Rs.sat_bind.1 q1) (fun Γ2 y q2 H2 w r2 => ?_) fun _ z => z⟩
      exact ok_ix (B := B) (W := W) (mg := X.mg) (K := X.K) (r' := rIxTu X.K) (R := fun H p vs => SqT X.K H p vs) (fun β Γ stk σ svs H x v xs r h => let ⟨p, vs, e1, e2, e3⟩ := r.tseq h; ⟨p, vs, e1, e2.sq, e3⟩)
        (fun p ys y j z H Q hp f1 f2 f3 f4 f5 q => ⟨p, ys, y, j, z, rfl, rfl, hp, f1, f2, f3, f4, f5, q⟩) β Γ2 stk σ svs H2 x y v w Q r2 q2
    · exact q1.elim
end
end Kv

set_option Elab.async false
set_option linter.all false
set_option maxRecDepth 100000
set_option maxHeartbeats 2000000
set_option autoImplicit false
/-! Kv, part H: dicts; statements without loops; targets. -/
namespace Kv
open PySem PySem.Spec L2
variable [Tbl]
/-! ### tables -/
def dget (kvs : List (Key × D)) (k : Key) : Option D := (kvs.find? fun kv => decide (kv.1 = k)).map (·.2)
def dput (kvs : List (Key × D)) (k : Key) (d : D) : List (Key × D) :=
  if (kvs.any fun kv => decide (kv.1 = k)) = true then kvs.map (fun kv => if kv.1 = k then (kv.1, d) else kv) else kvs ++ [(k, d)]
def keyP : P → Option Key
  | .int i => some (.inl i)
  | .str s => some (.inr s)
  | _ => none
section
variable {K : PySem.W.Frag} {H : Hp}
theorem RP.key {x : P} {v : V} {k : Key} (h : RP K H x v) (e : keyP x = some k) : v = kV k := by
  cases h <;> cases e <;> rfl
theorem RDk.get {kvs : List (Key × D)} {ps : List (Key × V)} {F : AP} (k : Key) (h : RDk K H kvs ps F) : (dget kvs k = none → valV ps k = none) ∧ ∀ d, dget kvs k = some d → ∃ v, valV ps k = some v ∧ RD K H d v F := by
  induction kvs generalizing ps F with
  | nil => cases h; exact ⟨fun _ => rfl, fun d e => by cases e⟩
  | cons p kvs ih =>
    obtain ⟨k', d'⟩ := p
    cases h with
    | @cons _ _ v ds vs F' G' _ h r s a b =>
      by_cases hk : k' = k
      · subst hk
        have e1 : dget ((k', d') :: kvs) k' = some d' := by simp [dget, List.find?_cons]
        have e2 : valV ((k', v) :: vs) k' = some v := valV_pos rfl
        rw [e1, e2]
        exact ⟨fun z => (by cases z), fun d e => (by cases e; exact ⟨_, rfl, h.mono a⟩)⟩
      · have e1 : dget ((k', d') :: kvs) k = dget kvs k := by simp [dget, List.find?_cons, hk]
        have e2 : valV ((k', v) :: vs) k = valV vs k := valV_neg hk
        rw [e1, e2]
        obtain ⟨i1, i2⟩ := ih r
        exact ⟨i1, fun d e => let ⟨v, q1, q2⟩ := i2 d e; ⟨v, q1, q2.mono b⟩⟩
theorem RDk.any {kvs : List (Key × D)} {ps : List (Key × V)} {F : AP} (k : Key) (h : RDk K H kvs ps F) : (kvs.any fun kv => decide (kv.1 = k)) = ps.any fun kv => decide (kv.1 = k) := by
  induction kvs generalizing ps F with
  | nil => cases h; rfl
  | cons p kvs ih =>
    cases h with
    | cons h r s a b => rw [List.any_cons, List.any_cons, ih r]
theorem RDk.length {kvs : List (Key × D)} {ps : List (Key × V)} {F : AP} (h : RDk K H kvs ps F) : kvs.length = ps.length := by
  induction kvs generalizing ps F with
  | nil => cases h; rfl
  | cons p kvs ih => cases h with | cons h r s a b => simp [ih r]
theorem RDk.mapP {kvs : List (Key × D)} {ps : List (Key × V)} {F : AP} (k : Key) {x : P} {v : V} (hx : RP K H x v) (h : RDk K H kvs ps F) :
    RDk K H (kvs.map fun kv => if kv.1 = k then (kv.1, D.p x) else kv) (ps.map fun kv => if kv.1 = k then (kv.1, v) else kv) F := by
  induction kvs generalizing ps F with
  | nil => cases h; exact .nil
  | cons p kvs ih =>
    cases h with
    | cons h r s a b =>
      rw [List.map_cons, List.map_cons]
      dsimp only
      split
      · exact .cons (F := No) (.p hx) (ih r) Sep.no Le.no b
      · exact .cons h (ih r) s a b
theorem RDk.snoc {kvs : List (Key × D)} {ps : List (Key × V)} {F F' : AP} {k : Key} {d : D} {v : V} (h : RDk K H kvs ps F) (hd : RD K H d v F') (s : Sep F F') : RDk K H (kvs ++ [(k, d)]) (ps ++ [(k, v)]) (U F F') := by
  induction kvs generalizing ps F with
  | nil => cases h; exact .cons (G := No) hd .nil Sep.nor Le.inr Le.no
  | cons p kvs ih =>
    cases h with
    | cons h r sp a b =>
      exact .cons h (ih r (s.mono b Le.rfl)) (Sep.ur sp (s.mono a Le.rfl)) (a.trans Le.inl) (Le.u (b.trans Le.inl) Le.inr)
/-- stored in a table: unchanging, or under a new key -/
theorem RDk.put {kvs : List (Key × D)} {ps : List (Key × V)} {F F' : AP} {k : Key} {d : D} {v : V} (h : RDk K H kvs ps F) (hd : RD K H d v F') (s : Sep F F') (ok : (∃ x, d = .p x) ∨ dget kvs k = none) :
    RDk K H (dput kvs k d) (putK ps k v) (U F F') := by
  unfold dput putK
  rw [← h.any k]
  split
  · rename_i ha
    rcases ok with ⟨x, rfl⟩ | ok
    · cases hd with
      | p hx => exact (h.mapP k hx).mono Le.inl
    · exfalso
      unfold dget at ok
      rw [List.any_eq_true] at ha
      obtain ⟨p, hp, e⟩ := ha
      cases q : kvs.find? fun kv => decide (kv.1 = k) with
      | none => exact absurd e (by simpa using List.find?_eq_none.mp q p hp)
      | some z => rw [q] at ok; cases ok
  · exact h.snoc hd s
theorem RDk.zip {keys : List Key} {ds : List D} {vs : List V} {F : AP} (h : RDs K H ds vs F) (hl : keys.length = ds.length) : RDk K H (keys.zip ds) (keys.zip vs) F := by
  induction keys generalizing ds vs F with
  | nil => exact .nil
  | cons k keys ih =>
    cases h with
    | nil => cases hl
    | cons h r s a b => exact .cons h (ih r (by simpa using hl)) s a b
end
theorem mergeK_new {kvs : List (Key × V)} : ∀ {more : List (Key × V)}, (∀ p ∈ more, ∀ q ∈ kvs, p.1 ≠ q.1) → (more.map (·.1)).Nodup → mergeK kvs more = kvs ++ more := by
  intro more
  induction more generalizing kvs with
  | nil => intro _ _; simp [mergeK]
  | cons p more ih =>
    intro h1 h2
    have e1 : putK kvs p.1 p.2 = kvs ++ [p] := by
      unfold putK
      rw [if_neg]
      simp only [List.any_eq_true, decide_eq_true_eq, not_exists, not_and]
      exact fun q hq e => h1 p List.mem_cons_self q hq e.symm
    show mergeK (putK kvs p.1 p.2) more = _
    rw [e1, ih, List.append_assoc]; rfl
    · intro q hq z hz
      rcases List.mem_append.mp hz with hz | hz
      · exact h1 q (List.mem_cons_of_mem _ hq) z hz
      · have : z = p := by simpa using hz
        subst this
        rw [List.map_cons, List.nodup_cons] at h2
        exact fun e => h2.1 (e ▸ List.mem_map_of_mem (f := fun x : Key × V => x.1) hq)
    · rw [List.map_cons, List.nodup_cons] at h2; exact h2.2
section
variable {X : Cx} {B : List Nat} {β : Base} {W : XK} {e a b c ee o : Expr} {es : List Expr} {f h : X1}
/-- d[k], the worth unchanging -/
def dgetE : G → E → E → Rs E := fun Γ a b => match val Γ a, b with
  | some (.dct kvs), .p k => (match keyP k with
    | some k => (match dget kvs k with | some (.p x) => .ok Γ (.p x) | _ => .bad)
    | none => .bad)
  | _, _ => .bad
theorem q_dget {pos} (hu : X.A.units + 1 < cLine) (ha : QE X B W a f) (hb : QE X B W b h) (hs : NoSl b) : QE X B W (.Subscript a b pos) (e2 dgetE f h) :=
  q_2 (r := fun x y H Q => ∃ a v, x = .ref a ∧ DGet H a y (some v) ∧ Q v H) ha hb (fun t u x y => pe_dget hu x y hs) fun β Γ stk σ svs H a b x y Q r q => by
    unfold dgetE at q
    split at q
    · rename_i kvs k hv
      split at q
      · rename_i key hk
        split at q
        · rename_i z hz
          have h1 := r.topP.key hk
          subst h1
          obtain ⟨F, kk⟩ := r.popE.val hv
          cases kk with
          | dct e1 r1 _ _ _ =>
            obtain ⟨v, hv2, hr⟩ := (r1.get key).2 _ hz
            cases hr with
            | p hr => exact ⟨_, v, rfl, by rw [← hv2]; exact DGet.k e1, q H v (r.popE.popE.pushP hr)⟩
        · exact q.elim
      · exact q.elim
    · exact q.elim
def dinOf (Γ : G) (k d : E) : Option Bool := match k, val Γ d with
  | .p k, some (.dct kvs) => (keyP k).map fun k => (dget kvs k).isSome
  | _, _ => none
def dinE : G → E → E → Rs E := fun Γ k d => match dinOf Γ k d with
  | some c => .ok Γ (.p (.bl c))
  | none => .bad
def dniE : G → E → E → Rs E := fun Γ k d => match dinOf Γ k d with
  | some c => .ok Γ (.p (.bl (!c)))
  | none => .bad
theorem Rel.din {K : PySem.W.Frag} {Γ : G} {stk : List E} {σ : SS} {svs : List V} {H : Hp} {a b : E} {x y : V} {c : Bool} (r : Rel K β Γ (b :: a :: stk) σ (y :: x :: svs) H) (h : dinOf Γ a b = some c) :
    ∃ p o, y = .ref p ∧ DGet H p x o ∧ o.isSome = c := by
  unfold dinOf at h
  split at h
  · rename_i k kvs hv
    cases hk : keyP k with
    | none => rw [hk] at h; cases h
    | some key =>
      rw [hk] at h; cases h
      have h1 := r.popE.topP.key hk
      subst h1
      obtain ⟨F, kk⟩ := r.val hv
      cases kk with
      | dct e1 r1 _ _ _ =>
        refine ⟨_, _, rfl, DGet.k e1, ?_⟩
        cases hd : dget kvs key with
        | none =>
          rw [(r1.get key).1 hd]
          show _ = (dget kvs key).isSome
          rw [hd]; rfl
        | some d =>
          obtain ⟨v, q, _⟩ := (r1.get key).2 d hd
          rw [q]
          show _ = (dget kvs key).isSome
          rw [hd]; rfl
  · cases h
theorem q_din {pos} (hu : X.A.units + 1 < cLine) (ha : QE X B W a f) (hb : QE X B W b h) (hm : behindInMarks .In b = false := by rfl) : QE X B W (.Compare a [.In] [b] pos) (e2 dinE f h) :=
  q_2 (r := fun y x H Q => ∃ a o, x = .ref a ∧ DGet H a y o ∧ Q (.bl o.isSome) H) ha hb (fun t u x y => pe_cmp (pc_din hu x y) hm) fun β Γ stk σ svs H a b x y Q r q => by
    unfold dinE at q
    split at q
    · rename_i cc hc
      obtain ⟨p, o, rfl, h1, h2⟩ := r.din hc
      exact ⟨p, o, rfl, h1, by rw [h2]; exact q H _ (r.popE.popE.pushP (.bl _))⟩
    · exact q.elim
theorem q_dni {pos} (hu : X.A.units + 1 < cLine) (ha : QE X B W a f) (hb : QE X B W b h) (hm : behindInMarks .NotIn b = false := by rfl) : QE X B W (.Compare a [.NotIn] [b] pos) (e2 dniE f h) :=
  q_2 (r := fun y x H Q => ∃ a o, x = .ref a ∧ DGet H a y o ∧ Q (.bl (!o.isSome)) H) ha hb (fun t u x y => pe_cmp (pc_dnotin hu x y) hm) fun β Γ stk σ svs H a b x y Q r q => by
    unfold dniE at q
    split at q
    · rename_i cc hc
      obtain ⟨p, o, rfl, h1, h2⟩ := r.din hc
      exact ⟨p, o, rfl, h1, by rw [h2]; exact q H _ (r.popE.popE.pushP (.bl _))⟩
    · exact q.elim
/-- a written dict; its keys written -/
def QP (X : Cx) (B : List Nat) (W : XK) (pos : Pos) (ks : List (Option Expr)) (vs : List Expr) (keys : List Key) (g : X2) : Prop :=
  ∃ trs, PPs X pos ks vs trs ∧ ∀ σ H (Q : List (V × V) → Hp → Prop), tA X.K X.mg W g σ H (fun us H' => Q ((keys.map kV).zip us) H') → tPairs trs σ H Q
theorem qp_nil {pos} : QP X B W pos [] [] [] nilA := ⟨[], pps_nil, fun σ H Q ⟨β, Γ, stk, svs, r, q⟩ => q H [] rfl r⟩
theorem qp_cons {pos : Pos} {k v : Expr} {ks : List (Option Expr)} {vs : List Expr} {key : Key} {keys : List Key} {g : X2} (hk : PE X k (tC (kV key))) (hv : QE X B W v f) (hr : QP X B W pos ks vs keys g) :
    QP X B W pos (some k :: ks) (v :: vs) (key :: keys) (conA f g) := by
  obtain ⟨trs, h1, h2⟩ := hr
  refine ⟨_, pps_cons hk hv h1, fun σ H Q ⟨β, Γ, stk, svs, r, q⟩ => ?_⟩
  refine ⟨β, Γ, stk, svs, r, Rs.sat_mono (Rs.sat_bind.1 q) (fun Γ1 x q1 H1 w r1 => ?_) fun _ z => z⟩
  refine h2 σ H1 _ ⟨β, Γ1, x :: stk, w :: svs, r1, Rs.sat_mono (Rs.sat_bind.1 q1) (fun Γ2 xs q2 H2 us hl r2 => ?_) fun _ z => z⟩
  exact q2 H2 (w :: us) (by simpa using hl) (by simpa using r2)
def dspE (keys : List Key) (g : X2) : X1 := fun Γ => (g Γ).bind fun Γ1 es => match gat es with
  | some ds => if keys.Nodup ∧ keys.length = es.length ∧ keys.length = ds.length ∧ keys.length ≤ 15 then .ok Γ1 (.o (.dct (keys.zip ds))) else .bad
  | none => .bad
theorem q_dsp {pos : Pos} {ks : List (Option Expr)} {vs : List Expr} {keys : List Key} {g : X2} (hp : QP X B W pos ks vs keys g) (h1 : ks.all (·.isSome) = true) (h2 : ks.length = vs.length) (h3 : ks ≠ []) (h4 : ks.length ≤ 15) :
    QE X B W (.Dict ks vs pos) (dspE keys g) := by
  obtain ⟨trs, k1, k2⟩ := hp
  refine PE.imp (pe_disp k1 h1 h2 h3 h4) fun σ H Q ⟨β, Γ, stk, svs, r, q⟩ p hp => ?_
  have r0 : Rel X.K β Γ (.o (.dct []) :: stk) σ (.ref p :: svs) (upd H p (.dK [])) := Rel.alloc (es := []) (vs := []) (F := fun a => a = p) r rfl hp (fun _ z => ⟨z, .inr ⟨_, rfl⟩⟩) fun M1 T _ _ => .o (.dct (G := No) upd_same .nil Le.no (.inl rfl) fun z => z)
  refine k2 σ _ _ ⟨β, Γ, _, _, r0, Rs.sat_mono (Rs.sat_bind.1 q) (fun Γ1 es q1 H2 us hl r1 => ?_) fun _ z => z⟩
  split at q1
  · rename_i ds hd
    split at q1
    · rename_i hz
      obtain ⟨hn, hle, hld, h15⟩ := hz
      obtain ⟨m, M1, T, m1, m2, s, put⟩ := Rel.mutStk r1 hl
      cases m1 with
      | dct e1 e2 e3 e4 e5 =>
        cases e2
        refine ⟨e1, keys.zip us, ?_, ?_, ?_⟩
        · rw [List.zip_map_left]; rfl
        · rw [List.length_zip]; omega
        have hk : ((keys.zip us).map (·.1)).Nodup := by
          rw [List.map_fst_zip (by omega)]; exact hn
        rw [mergeK_new (kvs := []) (fun _ _ q hq => by cases hq) hk, List.nil_append]
        refine q1 _ _ (put p _ (.dct (keys.zip ds)) (U m M1) e4 (.inr ⟨_, rfl⟩) (.dct (G := M1) upd_same (RDk.zip ((m2.gat hd).kp (kp_upd (.inr ⟨_, e1⟩) fun z => s p e4 z)) hld) Le.inr (.inl e4) fun z => s p e4 z) Le.rfl)
    · exact q1.elim
  · exact q1.elim
end

/-! ### statements -/
inductive Out where
  | nx (Γ : G) | rt (Γ : G) (e : E) | bk (Γ : G) | ct (Γ : G) | ex (c : Exn) | bad
abbrev X3 := G → Out
def Out.sat (K : PySem.W.Frag) (β : Base) (stk : List E) (svs : List V) (x : Exn → Prop) (D : Ends) : Out → Prop
  | .nx Γ => ∀ σ H, Rel K β Γ stk σ svs H → D.nx σ H
  | .bk Γ => ∀ σ H, Rel K β Γ stk σ svs H → D.bk σ H
  | .ct Γ => ∀ σ H, Rel K β Γ stk σ svs H → D.ct σ H
  | .rt Γ e => ∀ σ H v, Rel K β Γ (e :: stk) σ (v :: svs) H → D.rt v H
  | .ex c => x c
  | .bad => False
def NoB (stk : List E) : Prop := ∀ j, E.b j ∉ stk
theorem NoB.nil : NoB [] := fun _ h => by cases h
theorem NoB.cons {e : E} {stk : List E} (h : NoB stk) (he : ∀ j, e ≠ .b j) : NoB (e :: stk) := fun j z => by
  rcases List.mem_cons.mp z with z | z
  · exact he j z.symm
  · exact h j z
section
variable (K : PySem.W.Frag) (mg : Str → Option Value) (B : List Nat) (W : XK)
def tS (f : X3) : TS := fun D σ H => ∃ (β : Base) (Γ : G) (stk : List E) (svs : List V), (∀ q ∈ β.prot, q.1 ∈ B) ∧ Rel K β Γ stk σ svs H ∧ NoB stk ∧ (f Γ).sat K β stk svs (ExW mg β W) D
end
def Rs.out {α : Type} (r : Rs α) (k : G → α → Out) : Out := match r with
  | .ok Γ a => k Γ a
  | .ex c => .ex c
  | .bad => .bad
theorem Rs.sat_out {α : Type} {r : Rs α} {k : G → α → Out} {K : PySem.W.Frag} {β : Base} {stk : List E} {svs : List V} {x : Exn → Prop} {D : Ends} : (r.out k).sat K β stk svs x D ↔ r.sat (fun Γ a => (k Γ a).sat K β stk svs x D) x := by
  cases r <;> exact Iff.rfl
def Out.then (o : Out) (k : G → Out) : Out := match o with
  | .nx Γ => k Γ
  | o => o
section
variable {X : Cx} {B : List Nat} {β : Base} {W : XK} {e a b c : Expr} {es : List Expr} {f h : X1} {st : Stmt} {sts : List Stmt} {s1 s2 : X3} {fb : XB}
theorem PS.imp {t t' : TS} (h : PS X st t) (i : ∀ D σ H, t' D σ H → t D σ H) : PS X st t' := ⟨fun pins s σ H D I q => h.run pins s σ H D I (i D σ H q)⟩
theorem PSs.imp {t t' : TS} (h : PSs X sts t) (i : ∀ D σ H, t' D σ H → t D σ H) : PSs X sts t' := ⟨fun pins s σ H D I q => h.run pins s σ H D I (i D σ H q)⟩
abbrev QS (X : Cx) (B : List Nat) (W : XK) (st : Stmt) (f : X3) : Prop := PS X st (tS X.K X.mg B W f)
abbrev QB (X : Cx) (B : List Nat) (W : XK) (st : List Stmt) (f : X3) : Prop := PSs X st (tS X.K X.mg B W f)
def skipS : X3 := fun Γ => .nx Γ
def seqS (f g : X3) : X3 := fun Γ => (f Γ).then g
theorem b_nil : QB X B W [] skipS := PSs.imp pss_nil fun D σ H ⟨β, Γ, stk, svs, hβ, r, n, q⟩ => q σ H r
theorem b_cons (h1 : QS X B W st s1) (h2 : QB X B W sts s2) : QB X B W (st :: sts) (seqS s1 s2) := PSs.imp (pss_cons h1 h2) fun D σ H ⟨β, Γ, stk, svs, hβ, r, n, q⟩ => by
  refine ⟨β, Γ, stk, svs, hβ, r, n, ?_⟩
  unfold seqS at q
  cases h : s1 Γ with
  | nx Γ1 => rw [h] at q; exact fun σ1 H1 r1 => ⟨β, Γ1, stk, svs, hβ, r1, n, q⟩
  | rt Γ1 e => rw [h] at q; exact q
  | bk Γ1 => rw [h] at q; exact q
  | ct Γ1 => rw [h] at q; exact q
  | ex c => rw [h] at q; exact q
  | bad => rw [h] at q; exact q
theorem b_one (h1 : QS X B W st s1) : QB X B W [st] s1 := PSs.imp (pss_one h1) fun D σ H q => q
def dropS (f : X1) : X3 := fun Γ => (f Γ).out fun Γ1 _ => .nx Γ1
theorem s_expr {pos : Pos} (he : QE X B W e f) (hs : swapsWith e none pos.line X.env = pure false := by rfl) : QS X B W (.Expr e pos) (dropS f) := PS.imp (ps_expr he hs) fun D σ H ⟨β, Γ, stk, svs, hβ, r, n, q⟩ =>
  ⟨β, Γ, stk, svs, r, Rs.sat_mono (Rs.sat_out.1 q) (fun Γ1 x q1 H1 v r1 => q1 σ H1 r1.popE) fun _ z => z⟩
def retS (f : X1) : X3 := fun Γ => (own f Γ).out fun Γ1 e => .rt Γ1 e
theorem s_ret {pos : Pos} (he : QE X B W e f) : QS X B W (.Return (some e) pos) (retS f) := PS.imp (ps_ret (q_own he)) fun D σ H ⟨β, Γ, stk, svs, hβ, r, n, q⟩ =>
  ⟨β, Γ, stk, svs, r, Rs.sat_mono (Rs.sat_out.1 q) (fun Γ1 x q1 H1 v r1 => q1 σ H1 v r1) fun _ z => z⟩
def retN : X3 := fun Γ => .rt Γ (.p .non)
theorem s_retN {pos : Pos} : QS X B W (.Return none pos) retN := PS.imp ps_retN fun D σ H ⟨β, Γ, stk, svs, hβ, r, n, q⟩ => q σ H _ (r.pushP .non)
theorem s_pass {pos : Pos} : QS X B W (.Pass pos) skipS := PS.imp ps_pass fun D σ H ⟨β, Γ, stk, svs, hβ, r, n, q⟩ => q σ H r
theorem s_break {pos : Pos} : QS X B W (.Break pos) (fun Γ => .bk Γ) := PS.imp ps_break fun D σ H ⟨β, Γ, stk, svs, hβ, r, n, q⟩ => q σ H r
theorem s_cont {pos : Pos} : QS X B W (.Continue pos) (fun Γ => .ct Γ) := PS.imp ps_continue fun D σ H ⟨β, Γ, stk, svs, hβ, r, n, q⟩ => q σ H r
theorem s_doc {x j pos pos'} : QS X B W (.Expr (.Constant (.str x) j pos) pos') skipS := PS.imp ps_doc fun D σ H ⟨β, Γ, stk, svs, hβ, r, n, q⟩ => q σ H r
def ifS (t : XB) (f g : X3) : X3 := fun Γ => (t Γ).out fun Γ1 c => if c then f Γ1 else g Γ1
theorem s_if {A C : List Stmt} {pos : Pos} (hc : QT X B W c fb) (ha : QB X B W A s1) (hb : QB X B W C s2) : QS X B W (.If c A C pos) (ifS fb s1 s2) := PS.imp (ps_if hc ha hb) fun D σ H ⟨β, Γ, stk, svs, hβ, r, n, q⟩ => by
  refine ⟨β, Γ, stk, svs, r, Rs.sat_mono (Rs.sat_out.1 q) (fun Γ1 cc q1 H1 r1 => ?_) fun _ z => z⟩
  cases cc with
  | true => exact ⟨β, Γ1, stk, svs, hβ, r1, n, q1⟩
  | false => exact ⟨β, Γ1, stk, svs, hβ, r1, n, q1⟩

/-! ### targets -/
abbrev Tg := G → E → Option G
abbrev Tgs := G → List E → Option G
def tG (K : PySem.W.Frag) (B ws : List Nat) (t : Tg) : TG := fun v σ H Q => ∃ (β : Base) (Γ : G) (stk : List E) (svs : List V) (e : E) (Γ' : G), (∀ q ∈ β.prot, q.1 ∈ B) ∧ Rel K β Γ (e :: stk) σ (v :: svs) H ∧ NoB (e :: stk) ∧ t Γ e = some Γ' ∧ ∀ σ' H', wipe σ' ws = wipe σ ws → Rel K β Γ' stk σ' svs H' → Q σ' H'
def tGs (K : PySem.W.Frag) (B ws : List Nat) (t : Tgs) : TGs := fun vs σ H Q => ∃ (β : Base) (Γ : G) (stk : List E) (svs : List V) (es : List E) (Γ' : G), (∀ q ∈ β.prot, q.1 ∈ B) ∧ es.length = vs.length ∧ Rel K β Γ (es ++ stk) σ (vs ++ svs) H ∧ NoB (es ++ stk) ∧ t Γ es = some Γ' ∧ ∀ σ' H', wipe σ' ws = wipe σ ws → Rel K β Γ' stk σ' svs H' → Q σ' H'
theorem PG.imp {tg : Expr} {t t' : TG} (h : PG X tg t) (i : ∀ v σ H Q, t' v σ H Q → t v σ H Q) : PG X tg t' := ⟨fun pins s σ H v u Q I r q => h.run pins s σ H v u Q I r (i v σ H Q q)⟩
theorem PGs.imp {tg : List Expr} {t t' : TGs} (h : PGs X tg t) (i : ∀ v σ H Q, t' v σ H Q → t v σ H Q) : PGs X tg t' := ⟨fun pins s σ H v u Q I r q => h.run pins s σ H v u Q I r (i v σ H Q q)⟩
abbrev QG (X : Cx) (B ws : List Nat) (tg : Expr) (t : Tg) : Prop := PG X tg (tG X.K B ws t)
abbrev QGs (X : Cx) (B ws : List Nat) (tg : List Expr) (t : Tgs) : Prop := PGs X tg (tGs X.K B ws t)
theorem wipe_set {σ : SS} {i : Nat} {x : Option V} : ∀ {ws : List Nat}, i ∈ ws → wipe (σ.set i x) ws = wipe σ ws
  | w :: ws, h => by
    unfold wipe
    by_cases hw : i ∈ ws
    · rw [wipe_set hw]
    · have e : i = w := by
        rcases List.mem_cons.mp h with h | h
        · exact h
        · exact absurd h hw
      subst e
      have key : ∀ us : List Nat, i ∉ us → wipe (σ.set i x) us = (wipe σ us).set i x := by
        intro us
        induction us with
        | nil => intro _; rfl
        | cons u us ih =>
          intro hu
          unfold wipe
          rw [ih fun z => hu (List.mem_cons_of_mem _ z)]
          rw [List.set_comm]
          exact fun z => hu (z ▸ List.mem_cons_self)
      rw [key ws hw, List.set_set]
variable {ws : List Nat}
def nmT (i : Nat) : Tg := fun Γ e => some (Γ.set i (some e))
theorem g_name {i : Nat} {tg : Expr} (h : PG X tg (gName i)) (hp : i ∉ B := by decide) (hw : i ∈ ws := by decide) : QG X B ws tg (nmT i) := PG.imp h fun v σ H Q ⟨β, Γ, stk, svs, e, Γ', hβ, r, n, ht, q⟩ => by
  cases ht
  exact q _ _ (wipe_set hw) (r.store (fun j z => n j (by rw [z]; exact List.mem_cons_self)) (fun j z => n j (List.mem_cons_of_mem _ z)) fun q hq e => hp (e ▸ hβ q hq))
def nilT : Tgs := fun Γ es => match es with
  | [] => some Γ
  | _ => none
def conT (t : Tg) (u : Tgs) : Tgs := fun Γ es => match es with
  | e :: r => (t Γ e).bind fun Γ1 => u Γ1 r
  | [] => none
theorem g_nil : QGs X B ws [] nilT := PGs.imp pgs_nil fun vs σ H Q ⟨β, Γ, stk, svs, es, Γ', hβ, hl, r, n, ht, q⟩ => by
  cases es with
  | nil =>
    cases vs with
    | nil => cases ht; exact ⟨rfl, q σ H rfl r⟩
    | cons _ _ => cases hl
  | cons _ _ => cases ht
theorem g_cons {t : Expr} {ts : List Expr} {g : Tg} {gs : Tgs} (h1 : QG X B ws t g) (h2 : QGs X B ws ts gs) (hs : (assignEach (t :: ts) X.env).map (·.2) = assign t X.env :: (assignEach ts X.env).map (·.2) := by rfl) : QGs X B ws (t :: ts) (conT g gs) :=
  PGs.imp (pgs_cons h1 h2 hs) fun vs σ H Q ⟨β, Γ, stk, svs, es, Γ', hβ, hl, r, n, ht, q⟩ => by
    cases es with
    | nil => cases ht
    | cons e es =>
      cases vs with
      | nil => cases hl
      | cons v vs =>
        have ht : (g Γ e).bind (fun Γ1 => gs Γ1 es) = some Γ' := ht
        cases hg : g Γ e with
        | none => rw [hg] at ht; cases ht
        | some Γ1 =>
          rw [hg] at ht
          refine ⟨v, vs, rfl, β, Γ, es ++ stk, vs ++ svs, e, Γ1, hβ, r, n, hg, fun σ1 H1 hw1 r1 => ?_⟩
          exact ⟨β, Γ1, stk, svs, es, Γ', hβ, by simpa using hl, r1, fun j z => n j (List.mem_cons_of_mem _ z), ht, fun σ' H' hw' r' => q σ' H' (hw'.trans hw1) r'⟩
def ofS : D → E
  | .p x => .p x
  | d => .s d
theorem ofS_nb (d : D) : ∀ j, ofS d ≠ .b j := by cases d <;> (intro j z; cases z)
def tupT (n : Nat) (u : Tgs) : Tg := fun Γ e => match e with
  | .p (.tup xs) => if xs.length = n then u Γ (xs.map .p) else none
  | .o (.tup ds) => if ds.length = n then u Γ (ds.map ofD) else none
  | .s (.tup ds) => if ds.length = n then u Γ (ds.map ofS) else none
  | _ => none
theorem RDs.rk {K : PySem.W.Frag} {H : Hp} {T : AP} {σ : SS} : ∀ {ds : List D} {vs : List V} {F : AP}, RDs K H ds vs F → RK K H T σ (ds.map ofD) vs F
  | _, _, _, .nil => .nil
  | _, _, _, .cons h r s a b => .cons h.rs (RDs.rk r) s a b
theorem RDs.rkS {K : PySem.W.Frag} {H : Hp} {T : AP} {σ : SS} : ∀ {ds : List D} {vs : List V}, RDs K H ds vs T → RK K H T σ (ds.map ofS) vs No
  | _, _, .nil => .nil
  | d :: _, _, .cons h r s a b => by
    refine .cons (m := No) (M := No) ?_ (RDs.rkS (r.mono b)) Sep.no Le.no Le.rfl
    cases d with
    | p x => cases h with | p h => exact .p h
    | lst _ => exact .s (h.mono a)
    | dct _ => exact .s (h.mono a)
    | tup _ => exact .s (h.mono a)
    | fz _ => exact .s (h.mono a)
theorem g_tup {ts : List Expr} {k : Nat} {pos : Pos} {n : Nat} {gs : Tgs} (hc : X.calm = true) (h : QGs X B ws ts gs) (hn : (assignEach ts X.env).length = n := by rfl) (hst : (assignEach ts X.env).findIdx? (·.1) = none := by rfl) : QG X B ws (.Tuple ts k pos) (tupT n gs) :=
  PG.imp (pg_tup hc h hn hst) fun v σ H Q ⟨β, Γ, stk, svs, e, Γ', hβ, r, nb, ht, q⟩ => by
    unfold tupT at ht
    split at ht
    · rename_i xs
      split at ht
      · rename_i hl
        obtain ⟨p, vs, rfl, h1, h2⟩ := r.topP.tup_inv
        refine ⟨p, vs, rfl, h1.sq, by rw [← h2.length]; exact hl, β, Γ, stk, svs, _, Γ', hβ, by simpa using h2.length, ?_, fun j z => ?_, ht, q⟩
        · have := r.popE.pushPs h2.rev
          simpa using this
        · rcases List.mem_append.mp z with z | z
          · obtain ⟨x, _, e⟩ := List.mem_map.mp z; cases e
          · exact nb j (List.mem_cons_of_mem _ z)
      · cases ht
    · rename_i ds
      split at ht
      · rename_i hl
        obtain ⟨M, N, T, h1, h2, h3, h4, h5⟩ := r.ex
        cases h2 with
        | cons hh k2 s l1 l2 =>
          cases hh with
          | o hh =>
            cases hh with
            | tup t1 t2 =>
              refine ⟨_, _, rfl, t1.sq, by rw [← t2.length]; exact hl, β, Γ, stk, svs, _, Γ', hβ, by simpa using t2.length, ⟨⟨M, _, T, h1, RK.join t2.rk k2 s l1 l2, h3, h4, h5⟩, r.prot⟩, fun j z => ?_, ht, q⟩
              rcases List.mem_append.mp z with z | z
              · obtain ⟨d, _, e⟩ := List.mem_map.mp z; exact ofD_nb d j e
              · exact nb j (List.mem_cons_of_mem _ z)
      · cases ht
    · rename_i ds
      split at ht
      · rename_i hl
        obtain ⟨M, N, T, h1, h2, h3, h4, h5⟩ := r.ex
        cases h2 with
        | cons hh k2 s l1 l2 =>
          cases hh with
          | s hh =>
            cases hh with
            | tup t1 t2 =>
              refine ⟨_, _, rfl, t1.sq, by rw [← t2.length]; exact hl, β, Γ, stk, svs, _, Γ', hβ, by simpa using t2.length, ⟨⟨M, _, T, h1, RK.join t2.rkS k2 Sep.no Le.no l2, h3, h4, h5⟩, r.prot⟩, fun j z => ?_, ht, q⟩
              rcases List.mem_append.mp z with z | z
              · obtain ⟨d, _, e⟩ := List.mem_map.mp z; exact ofS_nb d j e
              · exact nb j (List.mem_cons_of_mem _ z)
      · cases ht
    · cases ht
theorem own_nb {f : X1} {Γ Γ' : G} {e : E} (h : own f Γ = .ok Γ' e) : ∀ j, e ≠ .b j := by
  unfold own at h
  cases q : f Γ with
  | ok Γ1 x =>
    rw [q] at h
    simp only [Rs.bind_ok] at h
    cases x with
    | b i =>
      dsimp only at h
      split at h
      · cases h; intro j z; cases z
      · cases h
    | p x => cases h; intro j z; cases z
    | o x => cases h; intro j z; cases z
    | s x => cases h; intro j z; cases z
  | ex c => rw [q] at h; cases h
  | bad => rw [q] at h; cases h
def asgS (t : Tg) (f : X1) : X3 := fun Γ => (own f Γ).out fun Γ1 e => match t Γ1 e with
  | some Γ2 => .nx Γ2
  | none => .bad
theorem asg_imp {te : TE} {g : TG} {t : Tg} (D : Ends) (σ : SS) (H : Hp) (ht : ∀ v σ H Q, tG X.K B ws t v σ H Q → g v σ H Q) (he : ∀ σ H Q, tE X.K X.mg W (own f) σ H Q → te σ H Q) (q : tS X.K X.mg B W (asgS t f) D σ H) : te σ H fun x H1 => g x σ H1 D.nx := by
  obtain ⟨β, Γ, stk, svs, hβ, r, n, q⟩ := q
  refine he σ H _ ⟨β, Γ, stk, svs, r, ?_⟩
  have q := Rs.sat_out.1 q
  cases hf : own f Γ with
  | ok Γ1 e =>
    rw [hf] at q
    intro H1 v r1
    refine ht v σ H1 _ ?_
    have q : (match t Γ1 e with | some Γ2 => Out.nx Γ2 | none => Out.bad).sat X.K β stk svs (ExW X.mg β W) D := q
    split at q
    · rename_i Γ2 h2
      exact ⟨β, Γ1, stk, svs, e, Γ2, hβ, r1, n.cons (own_nb hf), h2, fun σ' H' _ r' => q σ' H' r'⟩
    · exact q.elim
  | ex c => rw [hf] at q; exact q
  | bad => rw [hf] at q; exact q
theorem s_asg {tg : Expr} {t : Tg} {pos : Pos} (he : QE X B W e f) (hg : QG X B ws tg t) (hs : swapsWithSole [tg] e pos.line X.env = pure false := by rfl) (hw : swappedStores [tg] e X.env = pure none := by rfl)
    (h1 : (assignEach [tg] X.env).map (·.2) = [assign tg X.env] := by rfl) : QS X B W (.Assign [tg] e pos) (asgS t f) :=
  PS.imp (ps_asg (q_own he) hg hs hw h1) fun D σ H q => asg_imp D σ H (fun v σ H Q z => z) (fun σ H Q z => z) q
/-- x op= e, numbers -/
def augS (i : Nat) (g : Int → Int → Int) (f : X1) : X3 := fun Γ => match Γ[i]? with
  | some (some (.p (.int x))) => (f Γ).out fun Γ1 e => (match e with
    | .p (.int y) => .nx (Γ1.set i (some (.p (.int (g x y)))))
    | _ => .bad)
  | _ => .bad
theorem s_aug {i : Nat} {g : Int → Int → Int} {st : Stmt} (he : QE X B W e f) (hr : ∀ t, PE X e t → PS X st (tAug i t (ipI g))) (hp : i ∉ B := by decide) : QS X B W st (augS i g f) :=
  PS.imp (hr _ he) fun D σ H ⟨β, Γ, stk, svs, hβ, r, n, q⟩ => by
    unfold augS at q
    split at q
    · rename_i x hx
      obtain ⟨v, h1, r1⟩ := r.readP hx
      have h2 := r1.topP.int_inv
      subst h2
      refine ⟨_, h1, β, Γ, stk, svs, r, Rs.sat_mono (Rs.sat_out.1 q) (fun Γ1 y q1 H1 w r1 => ?_) fun _ z => z⟩
      split at q1
      · rename_i y
        have h3 := r1.topP.int_inv
        subst h3
        exact ⟨x, y, rfl, rfl, q1 _ _ ((r1.popE.pushP (.int _)).store (fun j z => by cases z) n fun q hq e => hp (e ▸ hβ q hq))⟩
      · exact q1.elim
    · exact q.elim
/-- d[k] = e, d a slot's own -/
def isP : D → Bool
  | .p _ => true
  | _ => false
theorem isP_ex {d : D} (h : isP d = true) : ∃ x, d = .p x := by cases d <;> first | exact ⟨_, rfl⟩ | cases h
theorem Rel.swapB {K : PySem.W.Frag} {Γ : G} {stk : List E} {σ : SS} {svs : List V} {H : Hp} {i : Nat} {e : E} {x v : V} (r : Rel K β Γ (.b i :: e :: stk) σ (x :: v :: svs) H) : Rel K β Γ (e :: .b i :: stk) σ (v :: x :: svs) H := by
  obtain ⟨M, N, T, h1, h2, h3, h4, h5⟩ := r.ex
  refine ⟨⟨M, N, T, h1, ?_, h3, h4, h5⟩, r.prot⟩
  cases h2 with
  | nm q h2 =>
    cases h2 with
    | nm q2 h2 => exact .nm q2 (.nm q h2)
    | cons hh h2 s a b => exact .cons hh (.nm q h2) s a b
  | cons hh _ _ _ _ => cases hh
def dputS (f fd fk : X1) : X3 := fun Γ => (own f Γ).out fun Γ1 v => (fd Γ1).out fun Γ2 d => (fk Γ2).out fun Γ3 k => match d, k, gat [v] with
  | .b i, .p k, some [w] => (match Γ3[i]?, keyP k with
    | some (some (.o (.dct kvs))), some k => if kvs.length < 1000000 ∧ (isP w = true ∨ (dget kvs k).isNone = true) then .nx (Γ3.set i (some (.o (.dct (dput kvs k w))))) else .bad
    | _, _ => .bad)
  | _, _, _ => .bad
theorem s_dput {o i : Expr} {fd fk : X1} {pos pos' : Pos} (hu : X.A.units + 1 < cLine) (ho : QE X B W o fd) (hi : QE X B W i fk) (hv : QE X B W e f) (hs : swapsWith e (some (.Subscript o i pos')) pos.line X.env = pure false := by rfl) :
    QS X B W (.Assign [.Subscript o i pos'] e pos) (dputS f fd fk) :=
  PS.imp (ps_dput hu ho hi (q_own hv) hs) fun D σ H ⟨β, Γ, stk, svs, hβ, r, n, q⟩ => by
    refine ⟨β, Γ, stk, svs, r, Rs.sat_mono (Rs.sat_out.1 q) (fun Γ1 v q1 H1 w r1 => ?_) fun _ z => z⟩
    refine ⟨β, Γ1, _, _, r1, Rs.sat_mono (Rs.sat_out.1 q1) (fun Γ2 d q2 H2 x r2 => ?_) fun _ z => z⟩
    refine ⟨β, Γ2, _, _, r2, Rs.sat_mono (Rs.sat_out.1 q2) (fun Γ3 k q3 H3 y r3 => ?_) fun _ z => z⟩
    split at q3
    · rename_i i' k' w' hg
      split at q3
      · rename_i kvs key hi' hk
        split at q3
        · rename_i hz
          have h1 := r3.topP.key hk
          subst h1
          obtain ⟨m, M1, T, m1, m2, s, put⟩ := Rel.mutate (es := [v]) (vs := [w]) r3.popE.swapB rfl hi'
          cases m1 with
          | dct e1 e2 e3 e4 e5 =>
            rename_i ps p G'
            have h3 := m2.gat hg
            cases h3 with
            | cons h3 h4 s4 l4 l5 =>
              have sg : Sep G' M1 := s.mono e3 Le.rfl
              refine ⟨p, _, rfl, DPut.k e1 (by rw [← e2.length]; exact Nat.lt_of_lt_of_le hz.1 (by decide)), q3 σ _ ?_⟩
              refine put p _ (.dct (dput kvs key w')) (U m M1) [] [] No e4 (.inr ⟨_, rfl⟩) ?_ .nil Sep.nor Le.rfl Le.no
              refine .dct (G := U G' M1) upd_same (RDk.put (e2.kp (kp_upd (.inr ⟨_, e1⟩) e5)) ((h3.kp (kp_upd (.inr ⟨_, e1⟩) fun z => s p e4 (l4 _ z))).mono l4) sg (hz.2.imp isP_ex (fun z => by simpa using z))) (Le.u (e3.trans Le.inl) Le.inr) (.inl e4) ?_
              exact fun z => z.elim e5 fun z => s p e4 z
        · exact q3.elim
      · exact q3.elim
    · exact q3.elim
end
end Kv

set_option Elab.async false
set_option linter.all false
set_option maxRecDepth 100000
set_option maxHeartbeats 2000000
set_option autoImplicit false
/-! Kv, part I: what is walked; for; while; list comprehensions. -/
namespace Kv
open PySem PySem.Spec L2
variable [Tbl]
section
variable {K : PySem.W.Frag} {β : Base} {Γ : G} {stk : List E} {σ : SS} {svs : List V} {H : Hp}
theorem Rel.swap {a b : E} {x y : V} (r : Rel K β Γ (a :: b :: stk) σ (x :: y :: svs) H) : Rel K β Γ (b :: a :: stk) σ (y :: x :: svs) H := by
  obtain ⟨M, N, T, h1, h2, h3, h4, h5⟩ := r.ex
  refine ⟨⟨M, N, T, h1, ?_, h3, h4, h5⟩, r.prot⟩
  cases h2 with
  | nm q h2 =>
    cases h2 with
    | nm q2 h2 => exact .nm q2 (.nm q h2)
    | cons hh h2 s a b => exact .cons hh (.nm q h2) s a b
  | cons hh h2 s l1 l2 =>
    cases h2 with
    | nm q2 h2 => exact .nm q2 (.cons hh h2 s l1 l2)
    | cons hh' h2 s' l1' l2' => exact .cons hh' (.cons hh h2 (s.mono Le.rfl l2') Le.inl Le.inr) (Sep.ur (s.mono Le.rfl l1').symm s') (l1'.trans l2) (Le.u l1 (l2'.trans l2))
theorem Rel.drop2 {a b : E} {x y : V} (r : Rel K β Γ (a :: b :: stk) σ (x :: y :: svs) H) : Rel K β Γ (a :: stk) σ (x :: svs) H := r.swap.popE
/-- a member of a shared list comes to hand -/
theorem Rel.pushS {ds : List D} {k : Nat} {d : D} {p : Addr} (r : Rel K β Γ (.s (.lst ds) :: stk) σ (.ref p :: svs) H) (hd : ds[k]? = some d) :
    ∃ vs v, H p = some (.lst vs) ∧ vs[k]? = some v ∧ Rel K β Γ (ofS d :: .s (.lst ds) :: stk) σ (v :: .ref p :: svs) H := by
  obtain ⟨M, N, T, h1, h2, h3, h4, h5⟩ := r.ex
  cases h2 with
  | cons hh h2 s l1 l2 =>
    cases hh with
    | s hh =>
      cases hh with
      | lst e1 e2 e3 e4 e5 =>
        obtain ⟨v, hv, hr⟩ := (e2.mono e3).get hd
        refine ⟨_, v, e1, hv, ⟨M, N, T, h1, ?_, h3, h4, h5⟩, r.prot⟩
        have one : RS K H T (ofS d) v No := by
          cases d with
          | p x => cases hr with | p hr => exact .p hr
          | lst _ => exact .s hr
          | dct _ => exact .s hr
          | tup _ => exact .s hr
          | fz _ => exact .s hr
        exact .cons (m := No) one (.cons (.s (.lst e1 e2 e3 e4 e5)) h2 s l1 l2) Sep.no Le.no Le.rfl
theorem Rel.pushST {ds : List D} {k : Nat} {d : D} {v0 : V} (r : Rel K β Γ (.s (.tup ds) :: stk) σ (v0 :: svs) H) (hd : ds[k]? = some d) :
    ∃ p vs v, v0 = .ref p ∧ TupT K H p vs ∧ vs[k]? = some v ∧ Rel K β Γ (ofS d :: .s (.tup ds) :: stk) σ (v :: .ref p :: svs) H := by
  obtain ⟨M, N, T, h1, h2, h3, h4, h5⟩ := r.ex
  cases h2 with
  | cons hh h2 s l1 l2 =>
    cases hh with
    | s hh =>
      cases hh with
      | tup e1 e2 =>
        obtain ⟨v, hv, hr⟩ := e2.get hd
        refine ⟨_, _, v, rfl, e1, hv, ⟨M, N, T, h1, ?_, h3, h4, h5⟩, r.prot⟩
        have one : RS K H T (ofS d) v No := by
          cases d with
          | p x => cases hr with | p hr => exact .p hr
          | lst _ => exact .s hr
          | dct _ => exact .s hr
          | tup _ => exact .s hr
          | fz _ => exact .s hr
        exact .cons (m := No) one (.cons (.s (.tup e1 e2)) h2 s l1 l2) Sep.no Le.no Le.rfl
/-- the heap grows by a thing that is of nobody here -/
theorem Rel.grown {p : Addr} {o : HO} (r : Rel K β Γ stk σ svs H) (hp : H p = none) : Rel K β Γ stk σ svs (upd H p o) := by
  obtain ⟨M, N, T, h1, h2, h3, h4, h5⟩ := r.ex
  have nn : ∀ a, H a ≠ none → upd H p o a ≠ none := fun a h => by
    unfold upd; split
    · simp
    · exact h
  refine ⟨⟨M, N, T, h1.kp (kp_new hp), h2.kp (kp_new hp), h3, h4, ⟨fun a ob nt e f => ?_, fun a z => ?_, h5.own, h5.shr, fun a z => mutE_new hp (h5.live a z), fun a z => mutE_new hp (h5.liveT a z), tabs_upd h5.tabs (.inl hp)⟩⟩, r.prot⟩
  · have := h5.keep a ob nt e f
    rw [upd_ne (ne_of_none this hp)]; exact this
  · refine h5.old a fun ob nt e => ?_
    exact z ob nt (by rw [upd_ne (ne_of_none e hp)]; exact e)
end

/-! ### what is walked -/
structure Walks (K : PySem.W.Frag) (J : It) (c : E) (cv : V) (items : List E) : Prop where
  nc : ∀ j, c ≠ .b j
  ni : ∀ e ∈ items, ∀ j, e ≠ .b j
  go : ∀ (β : Base) (Γ : G) (stk : List E) (σ : SS) (svs : List V) (H : Hp) (i : Nat) (e : E), Rel K β Γ (c :: stk) σ (cv :: svs) H → items[i]? = some e →
    J.go i H ∧ ∀ x H', J.yld i H x H' → Rel K β Γ (e :: c :: stk) σ (x :: cv :: svs) H'
  stop : ∀ (β : Base) (Γ : G) (stk : List E) (σ : SS) (svs : List V) (H : Hp), Rel K β Γ (c :: stk) σ (cv :: svs) H → J.stop items.length H
abbrev XI := G → Rs (E × List E)
def tI (K : PySem.W.Frag) (mg : Str → Option Value) (W : XK) (it : XI) : TI := fun σ H R => ∃ (β : Base) (Γ : G) (stk : List E) (svs : List V), Rel K β Γ stk σ svs H ∧
  (it Γ).sat (fun Γ' ci => ∀ H' cv J, Rel K β Γ' (ci.1 :: stk) σ (cv :: svs) H' → Walks K J ci.1 cv ci.2 → R J H') (ExW mg β W)
section
variable {X : Cx} {B : List Nat} {β : Base} {W : XK} {e a b c tg iter : Expr} {es : List Expr} {f h : X1}
abbrev QI (X : Cx) (B : List Nat) (W : XK) (tg iter : Expr) (it : XI) : Prop := PI X tg iter (tI X.K X.mg W it)
theorem PI.imp {t t' : TI} (h : PI X tg iter t) (i : ∀ σ H R, t' σ H R → t σ H R) : PI X tg iter t' := ⟨fun pins s σ H R I q => h.run pins s σ H R I (i σ H R q)⟩
/-- a list or a tuple -/
theorem pi_sq {l : Expr} {tl : TE} (hl : PE X l tl) : PI X tg l (fun σ H R => tl σ H fun x H1 => ∃ p xs, x = .ref p ∧ ((SqL X.K H1 p xs ∧ R (Itl X.K p) H1) ∨ (SqT X.K H1 p xs ∧ R (Itt X.K p) H1))) := by
  refine ⟨fun pins s σ H R I hq => ?_⟩
  refine thn (hl.run pins s σ H _ I hq) fun v s1 ⟨x, H1, I1, r1, p, xs, ex, q1⟩ => ?_
  subst ex
  cases r1
  have own1 : ∀ b, b ∈ [s1.heap.objs.size] → FpOk X pins H1 b := fun b hb => by
    have e : b = s1.heap.objs.size := by simpa using hb
    subst e
    exact I1.fpOk (Nat.le_refl _) (I1.hok.fresh (Nat.le_refl _))
  rcases q1 with ⟨hs, q⟩ | ⟨hs, q⟩
  · obtain ⟨its, rv, pl, _⟩ := I1.list hs
    refine wpAny_pyIter_list pl.isList ⟨s1.heap.objs.size, [s1.heap.objs.size], _, _, H1, rfl, I1.kept (t' := s1.toks) fun b o e => Heap.get?_push_of_some _ e, turn_list p _, ⟨_, Heap.get?_push_size _ rfl, rfl, rfl⟩, own1, q⟩
  · obtain ⟨its, rv, pl, _⟩ := I1.tuple hs
    refine wpAny_pyIter_tuple (show s1.heap.IsTuple p its.toArray from pl) ⟨s1.heap.objs.size, [s1.heap.objs.size], _, _, H1, rfl, I1.kept (t' := s1.toks) fun b o e => Heap.get?_push_of_some _ e, turn_tuple p _, ⟨_, Heap.get?_push_size _ rfl, rfl, rfl⟩, own1, q⟩
/-- the container at hand, its members -/
def held (Γ : G) (e : E) : Rs (E × List E) := match e with
  | .p (.tup xs) => .ok Γ (.p (.tup xs), xs.map .p)
  | .s (.lst ds) => .ok Γ (.s (.lst ds), ds.map ofS)
  | .o (.lst ds) => .ok Γ (.s (.lst ds), ds.map ofS)
  | .s (.fz xs) => .ok Γ (.s (.fz xs), xs.map .p)
  | .s (.tup ds) => .ok Γ (.s (.tup ds), ds.map ofS)
  | .o (.tup ds) => .ok Γ (.s (.tup ds), ds.map ofS)
  | _ => .bad
def sqI (f : X1) : XI := fun Γ => (shr f Γ).bind held
theorem RS.lst_inv {K : PySem.W.Frag} {H : Hp} {T : AP} {ds : List D} {v : V} {m : AP} (h : RS K H T (.s (.lst ds)) v m) : ∃ p vs F, v = .ref p ∧ H p = some (.lst vs) ∧ RDs K H ds vs F := by
  cases h with
  | s h => cases h with | lst a b _ _ _ => exact ⟨_, _, _, rfl, a, b⟩
theorem RS.tup_inv {K : PySem.W.Frag} {H : Hp} {T : AP} {ds : List D} {v : V} {m : AP} (h : RS K H T (.s (.tup ds)) v m) : ∃ p vs F, v = .ref p ∧ TupT K H p vs ∧ RDs K H ds vs F := by
  cases h with
  | s h => cases h with | tup a b => exact ⟨_, _, _, rfl, a, b⟩
theorem RS.fz_inv {K : PySem.W.Frag} {H : Hp} {T : AP} {xs : List P} {v : V} {m : AP} (h : RS K H T (.s (.fz xs)) v m) : ∃ p vs F, v = .ref p ∧ Frz K H p vs F ∧ RPs K H xs vs := by
  cases h with
  | s h => cases h with | fz a b => exact ⟨_, _, _, rfl, a, b⟩
theorem Rel.topS {K : PySem.W.Frag} {Γ : G} {stk : List E} {σ : SS} {svs : List V} {H : Hp} {d : D} {v : V} (r : Rel K β Γ (.s d :: stk) σ (v :: svs) H) : ∃ T m, RS K H T (.s d) v m := by
  rcases r.top with h | ⟨i, e, _⟩
  · exact h
  · cases e
theorem nbP (xs : List P) : ∀ e ∈ xs.map E.p, ∀ j, e ≠ .b j := fun e h j z => by
  obtain ⟨x, _, q⟩ := List.mem_map.mp h
  rw [z] at q; cases q
theorem nbS (ds : List D) : ∀ e ∈ ds.map ofS, ∀ j, e ≠ .b j := fun e h j z => by
  obtain ⟨x, _, q⟩ := List.mem_map.mp h
  exact ofS_nb x j (q.trans z)
theorem walks_tupP {K : PySem.W.Frag} {xs : List P} {p : Addr} : Walks K (Itt K p) (.p (.tup xs)) (.ref p) (xs.map .p) where
  nc := fun j z => by cases z
  ni := nbP xs
  go := fun β Γ stk σ svs H i e r he => by
    obtain ⟨p', vs, e1, h1, h2⟩ := r.topP.tup_inv
    cases e1
    rw [List.getElem?_map] at he
    cases hx : xs[i]? with
    | none => rw [hx] at he; cases he
    | some x =>
      rw [hx] at he; cases he
      obtain ⟨v, hv, hr⟩ := h2.get hx
      exact ⟨⟨vs, v, h1.sq, hv⟩, fun y H' ⟨e2, e3⟩ => by
        subst e2
        have := e3 vs h1.sq
        rw [hv] at this; cases this
        exact r.pushP hr⟩
  stop := fun β Γ stk σ svs H r => by
    obtain ⟨p', vs, e1, h1, h2⟩ := r.topP.tup_inv
    cases e1
    exact ⟨vs, h1.sq, by rw [List.length_map, h2.length]; exact Nat.le_refl _⟩
theorem walks_lstS {K : PySem.W.Frag} {ds : List D} {p : Addr} : Walks K (Itl K p) (.s (.lst ds)) (.ref p) (ds.map ofS) where
  nc := fun j z => by cases z
  ni := nbS ds
  go := fun β Γ stk σ svs H i e r he => by
    rw [List.getElem?_map] at he
    cases hx : ds[i]? with
    | none => rw [hx] at he; cases he
    | some d =>
      rw [hx] at he; cases he
      obtain ⟨vs, v, h1, h2, r2⟩ := r.pushS hx
      exact ⟨⟨vs, v, SqL.of h1, h2⟩, fun y H' ⟨e2, e3⟩ => by
        subst e2
        have := e3 vs (SqL.of h1)
        rw [h2] at this; cases this
        exact r2⟩
  stop := fun β Γ stk σ svs H r => by
    obtain ⟨T, m, hh⟩ := r.topS
    obtain ⟨p', vs, F, e1, h1, h2⟩ := hh.lst_inv
    cases e1
    exact ⟨vs, SqL.of h1, by rw [List.length_map, h2.length]; exact Nat.le_refl _⟩
theorem walks_fz {K : PySem.W.Frag} {xs : List P} {p : Addr} : Walks K (Itl K p) (.s (.fz xs)) (.ref p) (xs.map .p) where
  nc := fun j z => by cases z
  ni := nbP xs
  go := fun β Γ stk σ svs H i e r he => by
    obtain ⟨T, m, hh⟩ := r.topS
    obtain ⟨p', vs, F, e1, h1, h2⟩ := hh.fz_inv
    cases e1
    rw [List.getElem?_map] at he
    cases hx : xs[i]? with
    | none => rw [hx] at he; cases he
    | some x =>
      rw [hx] at he; cases he
      obtain ⟨v, hv, hr⟩ := h2.get hx
      exact ⟨⟨vs, v, h1.sq, hv⟩, fun y H' ⟨e2, e3⟩ => by
        subst e2
        have := e3 vs h1.sq
        rw [hv] at this; cases this
        exact r.pushP hr⟩
  stop := fun β Γ stk σ svs H r => by
    obtain ⟨T, m, hh⟩ := r.topS
    obtain ⟨p', vs, F, e1, h1, h2⟩ := hh.fz_inv
    cases e1
    exact ⟨vs, h1.sq, by rw [List.length_map, h2.length]; exact Nat.le_refl _⟩
theorem walks_tupS {K : PySem.W.Frag} {ds : List D} {p : Addr} : Walks K (Itt K p) (.s (.tup ds)) (.ref p) (ds.map ofS) where
  nc := fun j z => by cases z
  ni := nbS ds
  go := fun β Γ stk σ svs H i e r he => by
    rw [List.getElem?_map] at he
    cases hx : ds[i]? with
    | none => rw [hx] at he; cases he
    | some d =>
      rw [hx] at he; cases he
      obtain ⟨p', vs, v, e1, h1, h2, r2⟩ := r.pushST hx
      cases e1
      exact ⟨⟨vs, v, h1.sq, h2⟩, fun y H' ⟨e2, e3⟩ => by
        subst e2
        have := e3 vs h1.sq
        rw [h2] at this; cases this
        exact r2⟩
  stop := fun β Γ stk σ svs H r => by
    obtain ⟨T, m, hh⟩ := r.topS
    obtain ⟨p', vs, F, e1, h1, h2⟩ := hh.tup_inv
    cases e1
    exact ⟨vs, h1.sq, by rw [List.length_map, h2.length]; exact Nat.le_refl _⟩
theorem held_ok {K : PySem.W.Frag} {R : It → Hp → Prop} {Γ : G} {stk : List E} {σ : SS} {svs : List V} {H : Hp} {x : E} {v : V} {z : Exn → Prop} (r : Rel K β Γ (x :: stk) σ (v :: svs) H)
    (q : (held Γ x).sat (fun Γ' ci => ∀ H' cv J, Rel K β Γ' (ci.1 :: stk) σ (cv :: svs) H' → Walks K J ci.1 cv ci.2 → R J H') z) :
    ∃ p xs, v = .ref p ∧ ((SqL K H p xs ∧ R (Itl K p) H) ∨ (SqT K H p xs ∧ R (Itt K p) H)) := by
  have onL : ∀ {ds : List D}, Rel K β Γ (.s (.lst ds) :: stk) σ (v :: svs) H → (∀ H' cv J, Rel K β Γ (.s (.lst ds) :: stk) σ (cv :: svs) H' → Walks K J (.s (.lst ds)) cv (ds.map ofS) → R J H') → ∃ p xs, v = .ref p ∧ ((SqL K H p xs ∧ R (Itl K p) H) ∨ (SqT K H p xs ∧ R (Itt K p) H)) := fun r q => by
    obtain ⟨T, m, hh⟩ := r.topS
    obtain ⟨p, vs, F, rfl, h1, h2⟩ := hh.lst_inv
    exact ⟨p, vs, rfl, .inl ⟨SqL.of h1, q _ _ _ r walks_lstS⟩⟩
  have onT : ∀ {ds : List D}, Rel K β Γ (.s (.tup ds) :: stk) σ (v :: svs) H → (∀ H' cv J, Rel K β Γ (.s (.tup ds) :: stk) σ (cv :: svs) H' → Walks K J (.s (.tup ds)) cv (ds.map ofS) → R J H') → ∃ p xs, v = .ref p ∧ ((SqL K H p xs ∧ R (Itl K p) H) ∨ (SqT K H p xs ∧ R (Itt K p) H)) := fun r q => by
    obtain ⟨T, m, hh⟩ := r.topS
    obtain ⟨p, vs, F, rfl, h1, h2⟩ := hh.tup_inv
    exact ⟨p, vs, rfl, .inr ⟨h1.sq, q _ _ _ r walks_tupS⟩⟩
  unfold held at q
  split at q
  · obtain ⟨p, vs, rfl, h1, h2⟩ := r.topP.tup_inv
    exact ⟨p, vs, rfl, .inr ⟨h1.sq, q _ _ _ r walks_tupP⟩⟩
  · exact onL r q
  · exact onL r.shareO q
  · obtain ⟨T, m, hh⟩ := r.topS
    obtain ⟨p, vs, F, rfl, h1, h2⟩ := hh.fz_inv
    exact ⟨p, vs, rfl, .inl ⟨h1.sq, q _ _ _ r walks_fz⟩⟩
  · exact onT r q
  · exact onT r.shareO q
  · exact q.elim
theorem i_sq (ha : QE X B W e f) : QI X B W tg e (sqI f) := PI.imp (pi_sq (q_shr ha)) fun σ H R ⟨β, Γ, stk, svs, r, q⟩ =>
  ⟨β, Γ, stk, svs, r, Rs.sat_mono (Rs.sat_bind.1 q) (fun Γ1 x q1 H1 v r1 => held_ok r1 q1) fun _ z => z⟩
/-- range -/
def rgE (lo : Int) (n : Nat) : List E := (List.range n).map fun k : Nat => .p (.int (lo + (k : Int)))
theorem walks_rng {K : PySem.W.Frag} {lo : Int} {n : Nat} : Walks K (Itr lo n) (.p .non) .non (rgE lo n) where
  nc := fun j z => by cases z
  ni := fun e h j z => by
    obtain ⟨k, _, q⟩ := List.mem_map.mp h
    rw [z] at q; cases q
  go := fun β Γ stk σ svs H i e r he => by
    unfold rgE at he
    rw [List.getElem?_map] at he
    by_cases hi : i < n
    · rw [List.getElem?_range hi] at he
      cases he
      exact ⟨hi, fun y H' ⟨e2, e3⟩ => by subst e2 e3; exact r.pushP (.int _)⟩
    · rw [List.getElem?_eq_none (by simpa using hi)] at he; cases he
  stop := fun β Γ stk σ svs H r => by
    show n ≤ (rgE lo n).length
    simp [rgE]
def rgI1 (f : X1) : XI := fun Γ => (f Γ).bind fun Γ1 e => match e with
  | .p (.int j) => if j < 1000000 ∧ -1000000 < j then .ok Γ1 (.p .non, rgE 0 j.toNat) else .bad
  | _ => .bad
theorem i_rng1 {p pos : Pos} (hg : Gl X "range") (hm : X.mg "range" = none) (ha : QE X B W a f) (hs : starEach [a] X.env = [(false, eval a X.env)] := by rfl) : QI X B W tg (.Call (.Name "range" p) [a] [] pos) (rgI1 f) :=
  PI.imp (pi_range1 hg hm (pa_cons ha pa_nil hs) hs) fun σ H R ⟨β, Γ, stk, svs, r, q⟩ => by
    refine ⟨β, Γ, stk, svs, r, Rs.sat_mono (Rs.sat_bind.1 q) (fun Γ1 x q1 H1 v r1 => ?_) fun _ z => z⟩
    split at q1
    · split at q1
      · rename_i hj
        have h1 := r1.topP.int_inv
        subst h1
        exact ⟨_, rfl, by omega, by omega, q1 _ _ _ (r1.popE.pushP .non) walks_rng⟩
      · exact q1.elim
    · exact q1.elim
def rgI2 (f h : X1) : XI := fun Γ => (f Γ).bind fun Γ1 a => (h Γ1).bind fun Γ2 b => match a, b with
  | .p (.int i), .p (.int j) => if (j < 1000000 ∧ -1000000 < j) ∧ (i < 1000000 ∧ -1000000 < i) then .ok Γ2 (.p .non, rgE i (j - i).toNat) else .bad
  | _, _ => .bad
theorem i_rng2 {p pos : Pos} (hg : Gl X "range") (hm : X.mg "range" = none) (ha : QE X B W a f) (hb : QE X B W b h) (hs : starEach [a, b] X.env = [(false, eval a X.env), (false, eval b X.env)] := by rfl) (hs2 : starEach [b] X.env = [(false, eval b X.env)] := by rfl) :
    QI X B W tg (.Call (.Name "range" p) [a, b] [] pos) (rgI2 f h) :=
  PI.imp (pi_range2 hg hm (pa_cons ha (pa_cons hb pa_nil hs2) (by rw [hs, hs2])) hs hs2) fun σ H R ⟨β, Γ, stk, svs, r, q⟩ => by
    refine ⟨β, Γ, stk, svs, r, Rs.sat_mono (Rs.sat_bind.1 q) (fun Γ1 x q1 H1 v r1 => ?_) fun _ z => z⟩
    refine ⟨β, Γ1, _, _, r1, Rs.sat_mono (Rs.sat_bind.1 q1) (fun Γ2 y q2 H2 w r2 => ?_) fun _ z => z⟩
    split at q2
    · split at q2
      · rename_i hj
        have h1 := r2.topP.int_inv
        have h2 := r2.popE.topP.int_inv
        subst h1 h2
        exact ⟨_, _, rfl, by omega, q2 _ _ _ (r2.popE.popE.pushP .non) walks_rng⟩
      · exact q2.elim
    · exact q2.elim
/-- a text, sign by sign -/
def signs (s : Str) : List E := s.cps.toList.map fun c => .p (.str ⟨#[c]⟩)
theorem walks_str {K : PySem.W.Frag} {s : Str} : Walks K (Its s) (.p (.str s)) (.str s) (signs s) where
  nc := fun j z => by cases z
  ni := fun e h j z => by
    obtain ⟨k, _, q⟩ := List.mem_map.mp h
    rw [z] at q; cases q
  go := fun β Γ stk σ svs H i e r he => by
    unfold signs at he
    rw [List.getElem?_map] at he
    cases hc : s.cps.toList[i]? with
    | none => rw [hc] at he; cases he
    | some c =>
      rw [hc] at he; cases he
      have hc' : s.cps[i]? = some c := by rw [← Array.getElem?_toList]; exact hc
      have hi : i < s.cps.size := (Array.getElem?_eq_some_iff.mp hc').1
      exact ⟨(walk_str (z := s)).goes i H hi trivial, fun y H' hy => by
        obtain ⟨e2, c2, e3, e4⟩ := (walk_str (z := s)).yields i H y H' hi trivial hy
        rw [hc'] at e3; cases e3
        subst e2 e4
        exact r.pushP (.str _)⟩
  stop := fun β Γ stk σ svs H r => by
    have := (walk_str (z := s)).stops H trivial
    simpa [signs] using this
def stI (f : X1) : XI := fun Γ => (f Γ).bind fun Γ1 e => match e with
  | .p (.str s) => .ok Γ1 (.p (.str s), signs s)
  | _ => .bad
theorem i_str (ha : QE X B W e f) : QI X B W tg e (stI f) := PI.imp (pi_str ha) fun σ H R ⟨β, Γ, stk, svs, r, q⟩ => by
  refine ⟨β, Γ, stk, svs, r, Rs.sat_mono (Rs.sat_bind.1 q) (fun Γ1 x q1 H1 v r1 => ?_) fun _ z => z⟩
  split at q1
  · have h1 := r1.topP.str_inv
    subst h1
    exact ⟨_, rfl, q1 _ _ _ r1 walks_str⟩
  · exact q1.elim

/-! ### for -/
def forL (tg : Tg) (body : X3) : List E → G → Out
  | [], Γ => .nx Γ
  | e :: r, Γ => match tg Γ e with
    | some Γ1 => (match body Γ1 with
      | .nx Γ2 => forL tg body r Γ2
      | .ct Γ2 => forL tg body r Γ2
      | .bk Γ2 => .nx Γ2
      | o => o)
    | none => .bad
def forS (it : XI) (tg : Tg) (body : X3) : X3 := fun Γ => (it Γ).out fun Γ1 ci => forL tg body ci.2 Γ1
theorem s_for {tg iter : Expr} {body : List Stmt} {it : XI} {t : Tg} {sb : X3} {ws : List Nat} {pos : Pos} (hp : PassesOwn (model X.prog X.w) X.A X.env X.xe) (hc : X.calm = true) (hi : QI X B W tg iter it) (hg : QG X B ws tg t) (hb : QB X B W body sb)
    (hs : ∀ x, foldedSetIterable iter X.env x = pure x := by intro _; rfl) : QS X B W (.For tg iter body [] pos) (forS it t sb) := PS.imp (ps_for hp hc hi hg hb hs) fun D σ H ⟨β, Γ, stk, svs, hβ, r, n, q⟩ => by
  refine ⟨β, Γ, stk, svs, r, Rs.sat_mono (Rs.sat_out.1 q) (fun Γ1 ci q1 H1 cv J r1 wk => ?_) fun _ z => z⟩
  obtain ⟨c, items⟩ := ci
  dsimp only at q1 r1 wk
  refine ⟨fun i m σ H => m = items.length - i ∧ i ≤ items.length ∧ ∃ Γ, Rel X.K β Γ (c :: stk) σ (cv :: svs) H ∧ (forL t sb (items.drop i) Γ).sat X.K β stk svs (ExW X.mg β W) D, ⟨items.length, by simp, Nat.zero_le _, Γ1, r1, q1⟩, ?_⟩
  rintro i m σ2 H2 ⟨rfl, hi, Γ2, r2, q2⟩
  by_cases hlt : i < items.length
  · refine .inr ?_
    have he : items[i]? = some items[i] := List.getElem?_eq_getElem hlt
    obtain ⟨g1, g2⟩ := wk.go β Γ2 stk σ2 svs H2 i _ r2 he
    refine ⟨g1, fun σ' H' => ∃ m', m' < items.length - i ∧ m' = items.length - (i + 1) ∧ i + 1 ≤ items.length ∧ ∃ Γ, Rel X.K β Γ (c :: stk) σ' (cv :: svs) H' ∧ (forL t sb (items.drop (i + 1)) Γ).sat X.K β stk svs (ExW X.mg β W) D, fun σ' H' ⟨m', h1, h2, h3, h4⟩ => ⟨m', h1, h2, h3, h4⟩, fun x H' y => ?_⟩
    have r3 := g2 x H' y
    rw [List.drop_eq_getElem_cons hlt] at q2
    unfold forL at q2
    split at q2
    · rename_i Γ3 ht
      have ni := wk.ni _ (List.getElem_mem hlt)
      refine ⟨β, Γ2, c :: stk, cv :: svs, _, Γ3, hβ, r3, (n.cons wk.nc).cons ni, ht, fun σ' H' _ r4 => ?_⟩
      refine ⟨β, Γ3, c :: stk, cv :: svs, hβ, r4, n.cons wk.nc, ?_⟩
      cases ho : sb Γ3 with
      | nx Γ4 => rw [ho] at q2; exact fun σ5 H5 r5 => ⟨_, by omega, rfl, hlt, Γ4, r5, q2⟩
      | ct Γ4 => rw [ho] at q2; exact fun σ5 H5 r5 => ⟨_, by omega, rfl, hlt, Γ4, r5, q2⟩
      | bk Γ4 => rw [ho] at q2; exact fun σ5 H5 r5 => q2 σ5 H5 r5.popE
      | rt Γ4 e => rw [ho] at q2; exact fun σ5 H5 v r5 => q2 σ5 H5 v r5.drop2
      | ex c => rw [ho] at q2; exact q2
      | bad => rw [ho] at q2; exact q2
    · exact q2.elim
  · have e : i = items.length := by omega
    subst e
    rw [List.drop_length] at q2
    exact .inl ⟨wk.stop β Γ2 stk σ2 svs H2 r2, q2 σ2 H2 r2.popE⟩

/-! ### while -/
def whileN (t : XB) (body : X3) : Nat → G → Out
  | 0, _ => .bad
  | n + 1, Γ => (t Γ).out fun Γ1 c => if c then (match body Γ1 with
      | .nx Γ2 => whileN t body n Γ2
      | .ct Γ2 => whileN t body n Γ2
      | .bk Γ2 => .nx Γ2
      | o => o) else .nx Γ1
open Classical in
noncomputable def whileS (t : XB) (body : X3) : X3 := fun Γ => if h : ∃ n, whileN t body n Γ ≠ .bad then whileN t body (choose h) Γ else .bad
theorem whileN_more {t : XB} {body : X3} : ∀ {n : Nat} {Γ : G}, whileN t body n Γ ≠ .bad → ∀ m, n ≤ m → whileN t body m Γ = whileN t body n Γ
  | 0, _, h, _, _ => absurd rfl h
  | n + 1, Γ, h, m, hm => by
    obtain ⟨m, rfl⟩ : ∃ k, m = k + 1 := ⟨m - 1, by omega⟩
    unfold whileN at h ⊢
    cases ht : t Γ with
    | ok Γ1 c =>
      rw [ht] at h
      show (if c = true then _ else _) = (if c = true then _ else _)
      have h : (if c = true then (match body Γ1 with
        | .nx Γ2 => whileN t body n Γ2
        | .ct Γ2 => whileN t body n Γ2
        | .bk Γ2 => .nx Γ2
        | o => o) else Out.nx Γ1) ≠ .bad := h
      cases c with
      | true =>
        simp only [if_true] at h ⊢
        cases hb : body Γ1 with
        | nx Γ2 => rw [hb] at h; exact whileN_more h m (by omega)
        | ct Γ2 => rw [hb] at h; exact whileN_more h m (by omega)
        | _ => rfl
      | false => rfl
    | ex c => rfl
    | bad => rfl
theorem whileS_eq {t : XB} {body : X3} {n : Nat} {Γ : G} (h : whileN t body n Γ ≠ .bad) : whileS t body Γ = whileN t body n Γ := by
  unfold whileS
  have hx : ∃ n, whileN t body n Γ ≠ .bad := ⟨n, h⟩
  rw [dif_pos hx]
  have h2 := Classical.choose_spec hx
  by_cases hl : Classical.choose hx ≤ n
  · exact (whileN_more h2 n hl).symm
  · exact whileN_more h _ (by omega)
theorem s_while {body : List Stmt} {t : XB} {sb : X3} {pos : Pos} (hp : PassesOwn (model X.prog X.w) X.A X.env X.xe) (hc : QT X B W c t) (hb : QB X B W body sb) : QS X B W (.While c body [] pos) (whileS t sb) := PS.imp (ps_while hp hc hb) fun D σ H ⟨β, Γ, stk, svs, hβ, r, n, q⟩ => by
  have hn : ∃ k, (whileN t sb k Γ).sat X.K β stk svs (ExW X.mg β W) D := by
    unfold whileS at q
    split at q
    · exact ⟨_, q⟩
    · exact q.elim
  obtain ⟨k, q⟩ := hn
  refine ⟨fun m σ H => ∃ Γ, Rel X.K β Γ stk σ svs H ∧ (whileN t sb m Γ).sat X.K β stk svs (ExW X.mg β W) D, ⟨k, Γ, r, q⟩, ?_⟩
  rintro m σ2 H2 ⟨Γ2, r2, q2⟩
  cases m with
  | zero => exact q2.elim
  | succ m =>
    unfold whileN at q2
    refine ⟨β, Γ2, stk, svs, r2, Rs.sat_mono (Rs.sat_out.1 q2) (fun Γ3 cc q3 H3 r3 => ?_) fun _ z => z⟩
    cases cc with
    | false => exact q3 σ2 H3 r3
    | true =>
      simp only [if_true] at q3 ⊢
      refine ⟨fun σ' H' => ∃ Γ, Rel X.K β Γ stk σ' svs H' ∧ (whileN t sb m Γ).sat X.K β stk svs (ExW X.mg β W) D, fun σ' H' h => ⟨m, Nat.lt_succ_self _, h⟩, β, Γ3, stk, svs, hβ, r3, n, ?_⟩
      cases ho : sb Γ3 with
      | nx Γ4 => rw [ho] at q3; exact fun σ5 H5 r5 => ⟨Γ4, r5, q3⟩
      | ct Γ4 => rw [ho] at q3; exact fun σ5 H5 r5 => ⟨Γ4, r5, q3⟩
      | bk Γ4 => rw [ho] at q3; exact q3
      | rt Γ4 e => rw [ho] at q3; exact q3
      | ex c => rw [ho] at q3; exact q3
      | bad => rw [ho] at q3; exact q3
end
end Kv

set_option Elab.async false
set_option linter.all false
set_option maxRecDepth 100000
set_option maxHeartbeats 2000000
set_option autoImplicit false
/-! Kv, part J: a frame within a frame; list comprehensions. -/
namespace Kv
open PySem PySem.Spec L2
variable [Tbl]
def wipeG (Γ : G) : List Nat → G
  | [] => Γ
  | w :: ws => (wipeG Γ ws).set w none
section
variable {K : PySem.W.Frag} {H H' : Hp} {T : AP}
theorem RG.wipe {Γ : G} {σ : SS} {M : AP} (h : RG K H T Γ σ M) : ∀ ws : List Nat, RG K H T (wipeG Γ ws) (wipe σ ws) M
  | [] => h
  | w :: ws => (RG.wipe h ws).lose w none
/-- slots that are not known may hold anything -/
theorem RG.relax : ∀ {Γ : G} {σ : SS} {M : AP} (w : Nat) (x : Option V), RG K H T (Γ.set w none) σ M → RG K H T (Γ.set w none) (σ.set w x) M
  | [], _, _, _, _, h => by
    simp only [List.set_nil] at h ⊢
    cases h
    exact .nil
  | _ :: _, _, _, 0, x, h => by
    simp only [List.set_cons_zero] at h ⊢
    cases h with
    | hole r => exact .hole r
  | _ :: _, _, _, w + 1, x, h => by
    simp only [List.set_cons_succ] at h ⊢
    cases h with
    | hole r => exact .hole (RG.relax w x r)
    | full h r s a b => exact .full h (RG.relax w x r) s a b
theorem RG.at_none : ∀ {Γ : G} {σ : SS} {M : AP} {σ' : SS}, RG K H T Γ σ M → σ'.length = σ.length → (∀ (i : Nat) (e : E), Γ[i]? = some (some e) → σ'[i]? = σ[i]?) → RG K H T Γ σ' M
  | _, _, _, [], .nil, _, _ => .nil
  | _, _, _, _ :: _, .nil, h, _ => by simp at h
  | _, _, _, [], .hole _, h, _ => by simp at h
  | _, _, _, [], .full _ _ _ _ _, h, _ => by simp at h
  | _, _, _, y :: σ', .hole r, h, k => .hole (RG.at_none r (by simpa using h) fun i e q => by simpa using k (i + 1) e (by simpa using q))
  | _, _, _, y :: σ', .full hs r s a b, h, k => by
    have := k 0 _ rfl
    simp at this
    subst this
    exact .full hs (RG.at_none r (by simpa using h) fun i e q => by simpa using k (i + 1) e (by simpa using q)) s a b
end
theorem wipeG_none {Γ : G} : ∀ {ws : List Nat} {i : Nat} {e : E}, (wipeG Γ ws)[i]? = some (some e) → i ∉ ws
  | [], _, _, _ => by simp
  | w :: ws, i, e, h => by
    unfold wipeG at h
    by_cases hw : w = i
    · subst hw
      by_cases hl : w < (wipeG Γ ws).length
      · rw [List.getElem?_set_self hl] at h; cases h
      · rw [List.getElem?_eq_none (by simpa using hl)] at h; cases h
    · rw [List.getElem?_set_ne hw] at h
      have := wipeG_none h
      simp only [List.mem_cons, not_or]
      exact ⟨fun e => hw e.symm, this⟩
theorem wipe_out {σ : SS} {i : Nat} : ∀ {ws : List Nat}, i ∉ ws → (wipe σ ws)[i]? = σ[i]?
  | [], _ => rfl
  | w :: ws, h => by
    unfold wipe
    simp only [List.mem_cons, not_or] at h
    rw [List.getElem?_set_ne (fun e => h.1 e.symm)]
    exact wipe_out h.2
theorem wipe_set' {σ : SS} {w : Nat} : ∀ ws : List Nat, wipe (σ.set w none) ws = (wipe σ ws).set w none
  | [] => rfl
  | u :: ws => by
    unfold wipe
    rw [wipe_set' ws]
    by_cases e : u = w
    · subst e; rfl
    · exact List.set_comm _ _ (fun z => e z.symm)
theorem wipe_idem {σ : SS} : ∀ ws : List Nat, wipe (wipe σ ws) ws = wipe σ ws
  | [] => rfl
  | w :: ws => by
    show (wipe ((wipe σ ws).set w none) ws).set w none = (wipe σ ws).set w none
    rw [wipe_set' ws, wipe_idem ws, List.set_set]
section
variable {K : PySem.W.Frag} {β : Base} {Γ : G} {stk : List E} {σ : SS} {svs : List V} {H : Hp}
/-- a block is entered, with one thing at hand, and left -/
theorem Rel.enter {c : E} {cv : V} (ws : List Nat) (r : Rel K β Γ (c :: stk) σ (cv :: svs) H) (hc : ∀ j, c ≠ .b j) :
    ∃ β' : Base, β'.prot = [] ∧ Rel K β' (wipeG Γ ws) [c] (wipe σ ws) [cv] H ∧
      ∀ (Γ' : G) (e : E) (v : V) (H' : Hp), (∀ j, e ≠ .b j) → Rel K β' (wipeG Γ' ws) [e] (wipe σ ws) [v] H' → Rel K β (wipeG Γ' ws) (e :: stk) σ (v :: svs) H' := by
  obtain ⟨M, N, T, h1, h2, h3, h4, h5⟩ := r.ex
  cases h2 with
  | nm q h2 => exact absurd rfl (hc _)
  | cons hh h2 s l1 l2 =>
    rename_i m N'
    have b4 : Le (U M m) (U M N) := Le.u Le.inl (l1.trans Le.inr)
    refine ⟨⟨H, U M m, T, []⟩, rfl, ⟨⟨M, m, T, h1.wipe ws, .cons (m := m) hh .nil Sep.nor Le.rfl Le.no, h3.mono Le.rfl l1, h4.mono b4 Le.rfl, ?_⟩, fun q hq => by cases hq⟩, fun Γ' e v H' he r' => ?_⟩
    · exact ⟨fun _ _ _ h _ => h, fun _ h => h, fun _ h => .inl h, fun _ h => .inr (.inl h), fun a h => h5.live a (b4 a h), h5.liveT, h5.tabs⟩
    · obtain ⟨M', N2, T', g1, g2, g3, g4, g5⟩ := r'.ex
      have keep : ∀ a o, NT o → H a = some o → ¬ U M m a → H' a = some o := g5.keep
      have old : ∀ a, NN H' a → NN H a := g5.old
      have own : ∀ a, U M' N2 a → U M m a ∨ NN H a := g5.own
      have shr : ∀ a, T' a → U M m a ∨ T a ∨ NN H a := g5.shr
      have nM : ∀ a, U M m a → MutE H a := fun a h => h5.live a (b4 a h)
      have kp : Kp (U N' T) H H' := by
        refine ⟨fun a o f e => keep a o (f.elim (fun f => (h5.live a (.inr (l2 a f))).nt e) fun f => (h5.liveT a f).nt e) e fun z => ?_, fun a xs e => keep a _ (fun _ z => by cases z) e fun z => ?_, fun a o u e => keep a _ (fun _ z => by cases z) e fun z => ?_⟩
        · rcases f with f | f
          · exact z.elim (fun z => h3 a z (l2 a f)) fun z => s a z f
          · exact h4 a (b4 a z) f
        · rcases nM a z with ⟨_, q⟩ | ⟨_, q⟩ <;> (rw [q] at e; cases e)
        · rcases nM a z with ⟨_, q⟩ | ⟨_, q⟩ <;> (rw [q] at e; cases e)
      have lN : ∀ a, N' a → ¬ NN H a := fun a h => (h5.live a (.inr (l2 a h))).nn
      have sN : Sep (U M' N2) N' := fun a x y => by
        rcases own a x with z | z
        · exact z.elim (fun z => h3 a z (l2 a y)) fun z => s a z y
        · exact lN a y z
      have sT : Sep (U M' N2) T := fun a x y => by
        rcases own a x with z | z
        · exact h4 a (b4 a z) y
        · exact (h5.liveT a y).nn z
      have sT' : Sep N' T' := fun a x y => by
        rcases shr a y with z | z | z
        · exact z.elim (fun z => h3 a z (l2 a x)) fun z => s a z x
        · exact h4 a (.inr (l2 a x)) z
        · exact lN a x z
      have lw : (wipe σ ws).length = σ.length := wipe_length σ ws
      have g1' : RG K H' T' (wipeG Γ' ws) σ M' := g1.at_none lw.symm fun i e q => (wipe_out (wipeG_none q)).symm
      have g2' : RK K H' T' σ [e] [v] N2 := by
        cases g2 with
        | nm q _ => exact absurd rfl (he _)
        | cons a b c d e => cases b with | nil => exact .cons a .nil Sep.nor d Le.no
      refine ⟨⟨M', U N2 N', U T T', g1'.tmono Le.inr, RK.join (as := [e]) (us := [v]) (g2'.tmono Le.inr) ((h2.kp kp).tmono Le.inl) (sN.mono Le.inr Le.rfl) Le.inl Le.inr, ?_, ?_, ?_⟩, r.prot⟩
      · exact Sep.ur g3 (sN.mono Le.inl Le.rfl)
      · refine Sep.u (Sep.ur (sT.mono Le.inl Le.rfl) (g4.mono Le.inl Le.rfl)) (Sep.u (Sep.ur (sT.mono Le.inr Le.rfl) (g4.mono Le.inr Le.rfl)) (Sep.ur (h4.mono (l2.trans Le.inr) Le.rfl) sT'))
      · refine ⟨fun a o nt z f => ?_, fun a z => h5.old a (old a z), fun a z => ?_, fun a z => ?_, fun a z => ?_, fun a z => ?_, g5.tabs⟩
        · refine keep a o nt (h5.keep a o nt z f) fun w => ?_
          rcases h5.own a (b4 a w) with q | q
          · exact f q
          · exact q o nt z
        · rcases z with z | z | z
          · rcases own a (.inl z) with w | w
            · exact h5.own a (b4 a w)
            · exact .inr (h5.old a w)
          · rcases own a (.inr z) with w | w
            · exact h5.own a (b4 a w)
            · exact .inr (h5.old a w)
          · exact h5.own a (.inr (l2 a z))
        · rcases z with z | z
          · exact h5.shr a z
          · rcases shr a z with w | w | w
            · exact (h5.own a (b4 a w)).imp_right .inr
            · exact h5.shr a w
            · exact .inr (.inr (h5.old a w))
        · rcases z with z | z | z
          · exact g5.live a (.inl z)
          · exact g5.live a (.inr z)
          · have q : ¬ U M m a := fun w => w.elim (fun w => h3 a w (l2 a z)) fun w => s a w z
            rcases h5.live a (.inr (l2 a z)) with ⟨x, w⟩ | ⟨x, w⟩
            · exact .inl ⟨x, keep a _ (fun _ z => by cases z) w q⟩
            · exact .inr ⟨x, keep a _ (fun _ z => by cases z) w q⟩
        · rcases z with z | z
          · have q : ¬ U M m a := fun w => h4 a (b4 a w) z
            rcases h5.liveT a z with ⟨x, w⟩ | ⟨x, w⟩
            · exact .inl ⟨x, keep a _ (fun _ z => by cases z) w q⟩
            · exact .inr ⟨x, keep a _ (fun _ z => by cases z) w q⟩
          · exact g5.liveT a z
end

section
variable {K : PySem.W.Frag} {β : Base} {Γ : G} {σ : SS} {H : Hp}
theorem Rel.rot {a b c : E} {x y z : V} (r : Rel K β Γ [a, b, c] σ [x, y, z] H) : Rel K β Γ [b, c, a] σ [y, z, x] H := by
  obtain ⟨M, N, T, h1, h2, h3, h4, h5⟩ := r.ex
  obtain ⟨us, ws, M1, M2, e, q1, q2, q3, q4, q5⟩ := RK.split (as := [a]) (bs := [b, c]) h2
  have l := q1.length
  match us, l, e with
  | [u], _, e =>
    cases e
    exact ⟨⟨M, N, T, h1, RK.join (as := [b, c]) (bs := [a]) (us := [y, z]) (ws := [x]) q2 q1 q3.symm q5 q4, h3, h4, h5⟩, r.prot⟩
end
abbrev E0' : XK := fun _ _ _ => False
/-- the turns of a list comprehension -/
def lcL (ws : List Nat) (t : Tg) (c : XB) (f : X1) : List E → G → List D → Rs (List D)
  | [], Γ, acc => .ok Γ acc
  | e :: r, Γ, acc => match t (wipeG Γ ws) e with
    | some Γ1 => (match c Γ1 with
      | .ok Γ2 true => (match own f Γ2 with
        | .ok Γ3 y => (match gat [y] with
          | some [d] => if acc.length < 1000000 then lcL ws t c f r Γ3 (acc ++ [d]) else .bad
          | _ => .bad)
        | _ => .bad)
      | .ok Γ2 false => lcL ws t c f r Γ2 acc
      | _ => .bad)
    | none => .bad
def lcE (it : XI) (ws : List Nat) (t : Tg) (c : XB) (f : X1) : X1 := fun Γ => (it Γ).bind fun Γ1 ci => match lcL ws t c f ci.2 Γ1 [] with
  | .ok Γ2 acc => .ok (wipeG Γ2 ws) (.o (.lst acc))
  | _ => .bad
section
variable {X : Cx} {B : List Nat} {β : Base} {W : XK} {e a b tg iter elt : Expr} {ifs : List Expr} {f h : X1}
abbrev QF (X : Cx) (ifs : List Expr) (c : XB) : Prop := PTs X ifs (tT X.K X.mg E0' c)
def yesB : XB := fun Γ => .ok Γ true
theorem f_nil : QF X [] yesB := ⟨fun pins s σ H Q I ⟨β, Γ, stk, svs, r, q⟩ => pts_nil.run pins s σ H Q I (q H r)⟩
theorem f_one {e : Expr} {c : XB} (h : QT X B E0' e c) : QF X [e] c := pts_one h
theorem lc_turn {it : XI} {own : List (Str × Nat)} {t : Tg} {c : XB} {scope : Scope} {dd : Addr} {σ : SS} {H1 : Hp} {stk : List E} {svs : List V} {cc : E} {cv : V} {items : List E} {J : It} {Γ1 : G} {Q : Hp → Prop} {β : Base} {acc : List D} {Γ2 : G}
    (wk : Walks X.K J cc cv items) (r1 : Rel X.K β Γ1 (cc :: stk) σ (cv :: svs) H1) (hD : H1 dd = none)
    (hl : lcL (own.map (·.2)) t c f items Γ1 [] = .ok Γ2 acc)
    (hq : ∀ H', Rel X.K β (wipeG Γ2 (own.map (·.2))) (.o (.lst acc) :: stk) σ (.ref dd :: svs) H' → Q H') :
    ∃ W : Nat → Nat → Hp → Prop, (∃ m, W 0 m (upd H1 dd (.lst []))) ∧ ∀ i m H, W i m H →
      (J.stop i H ∧ Q H) ∨ (J.go i H ∧ ∃ Nx : Hp → Prop, (∀ H', Nx H' → ∃ m', m' < m ∧ W (i + 1) m' H') ∧ ∀ x H', J.yld i H x H' → tG X.K B (own.map (·.2)) t x (wipe σ (own.map (·.2))) H' fun σ2 H2 => wipe σ2 (own.map (·.2)) = wipe σ (own.map (·.2)) ∧ tT X.K X.mg E0' c σ2 H2 fun b H3 =>
        if b = true then tE X.K X.mg E0' (Kv.own f) σ2 H3 fun y H4 => ∃ acc, H4 dd = some (.lst acc) ∧ acc.length < sizeLine ∧ Nx (upd H4 dd (.lst (acc ++ [y]))) else Nx H3) := by
  generalize hws : own.map (·.2) = ws at *
  obtain ⟨β', hp, r0, leave⟩ := r1.enter ws wk.nc
  have rD : Rel X.K β' (wipeG Γ1 ws) (cc :: .o (.lst []) :: []) (wipe σ ws) (cv :: .ref dd :: []) (upd H1 dd (.lst [])) :=
    (Rel.alloc (es := []) (vs := []) (F := fun a => a = dd) r0 rfl hD (fun _ z => ⟨z, .inl ⟨_, rfl⟩⟩) fun M1 T _ n => .o (.lst (G := No) upd_same .nil Le.no (.inl rfl) fun z => z)).swap
  refine ⟨fun i m H => m = items.length - i ∧ i ≤ items.length ∧ ∃ (Γ : G) (ac : List Kv.D), Rel X.K β' (wipeG Γ ws) (cc :: .o (.lst ac) :: []) (wipe σ ws) (cv :: .ref dd :: []) H ∧ lcL ws t c f (items.drop i) Γ ac = .ok Γ2 acc,
    ⟨items.length, by simp, Nat.zero_le _, Γ1, [], rD, hl⟩, ?_⟩
  rintro i m H ⟨rfl, hi, Γ, ac, r, hr⟩
  by_cases hlt : i < items.length
  · refine .inr ?_
    have he : items[i]? = some items[i] := List.getElem?_eq_getElem hlt
    obtain ⟨g1, g2⟩ := wk.go β' _ _ _ _ H i _ r he
    refine ⟨g1, fun H' => ∃ (Γ : G) (ac : List Kv.D), Rel X.K β' (wipeG Γ ws) (cc :: .o (.lst ac) :: []) (wipe σ ws) (cv :: .ref dd :: []) H' ∧ lcL ws t c f (items.drop (i + 1)) Γ ac = .ok Γ2 acc, fun H' h => ⟨items.length - (i + 1), by omega, rfl, hlt, h⟩, fun x H' y => ?_⟩
    have r3 := g2 x H' y
    rw [List.drop_eq_getElem_cons hlt] at hr
    unfold lcL at hr
    split at hr
    · rename_i Γ3 ht
      have ni := wk.ni _ (List.getElem_mem hlt)
      have nb : NoB (cc :: E.o (.lst ac) :: []) := (NoB.nil.cons fun j z => by cases z).cons wk.nc
      refine ⟨β', _, _, _, _, Γ3, (by rw [hp]; intro q hq; cases hq), r3, nb.cons ni, ht, fun σ' H2 hw0 r4 => ?_⟩
      have hw : wipe σ' ws = wipe σ ws := hw0.trans (wipe_idem ws)
      refine ⟨hw, ?_⟩
      refine ⟨β', Γ3, _, _, r4, ?_⟩
      cases hc : c Γ3 with
      | ex z => rw [hc] at hr; cases hr
      | bad => rw [hc] at hr; cases hr
      | ok Γ4 k =>
        rw [hc] at hr
        intro H3 r5
        cases k with
        | false =>
          dsimp only at hr
          simp only [Bool.false_eq_true, if_false]
          refine ⟨Γ4, ac, ?_, hr⟩
          have := r5.ex
          obtain ⟨M, N, T, k1, k2, k3, k4, k5⟩ := this
          refine ⟨⟨M, N, T, by rw [← hw]; exact k1.wipe ws, ?_, k3, k4, k5⟩, by rw [hp]; intro q hq; cases hq⟩
          cases k2 with
          | nm q _ => exact absurd rfl (wk.nc _)
          | cons a1 a2 a3 a4 a5 =>
            cases a2 with
            | cons b1 b2 b3 b4 b5 => cases b2 with | nil => exact .cons a1 (.cons b1 .nil Sep.nor b4 Le.no) a3 a4 a5
        | true =>
          dsimp only at hr
          simp only [if_true]
          refine ⟨β', Γ4, _, _, r5, ?_⟩
          cases ho : Kv.own f Γ4 with
          | ex z => rw [ho] at hr; cases hr
          | bad => rw [ho] at hr; cases hr
          | ok Γ5 y' =>
            rw [ho] at hr
            dsimp only at hr
            intro H4 v r6
            split at hr
            · rename_i d hd
              split at hr
              · rename_i hz
                have r7 := r6.swap.popE
                obtain ⟨_, F, hF⟩ : ∃ F F', RD X.K H4 (.lst ac) (.ref dd) F ∧ F' = F := by
                  obtain ⟨F, q⟩ := r6.popE.popE.val (x := .o (.lst ac)) rfl
                  exact ⟨F, F, q, rfl⟩
                obtain ⟨hF, _⟩ := hF
                cases hF with
                | lst q1 q2 q3 q4 q5 =>
                  refine ⟨_, q1, by rw [← q2.length]; exact Nat.lt_of_lt_of_le hz (by decide), Γ5, ac ++ [d], ?_, hr⟩
                  have r8 := ((r6.swap.rot.grow hd q1).swap).ex
                  obtain ⟨M, N, T, k1, k2, k3, k4, k5⟩ := r8
                  refine ⟨⟨M, N, T, by rw [← hw]; exact k1.wipe ws, ?_, k3, k4, k5⟩, by rw [hp]; intro q hq; cases hq⟩
                  cases k2 with
                  | nm q _ => exact absurd rfl (wk.nc _)
                  | cons a1 a2 a3 a4 a5 =>
                    cases a2 with
                    | cons b1 b2 b3 b4 b5 => cases b2 with | nil => exact .cons a1 (.cons b1 .nil Sep.nor b4 Le.no) a3 a4 a5
              · cases hr
            · cases hr
    · cases hr
  · have e : i = items.length := by omega
    subst e
    rw [List.drop_length] at hr
    unfold lcL at hr
    cases hr
    refine .inl ⟨wk.stop β' _ _ _ _ H r, hq H (leave _ _ _ _ (fun j z => by cases z) r.popE)⟩
theorem lc_sat {it : XI} {own : List (Str × Nat)} {t : Tg} {c : XB} {β : Base} {Γ : G} {stk : List E} {svs : List V} {σ : SS} {H : Hp} {Q : VK} (h : QI X B W tg iter it) (r : Rel X.K β Γ stk σ svs H)
    (q : (lcE it (own.map (·.2)) t c f Γ).sat (fun Γ' e => ∀ H' v, Rel X.K β Γ' (e :: stk) σ (v :: svs) H' → Q v H') (ExW X.mg β W)) :
    tLc (tI X.K X.mg W it) (tG X.K B (own.map (·.2)) t) (tT X.K X.mg E0' c) (tE X.K X.mg E0' (Kv.own f)) (own.map (·.2)) σ H Q := by
  refine ⟨β, Γ, stk, svs, r, Rs.sat_mono (Rs.sat_bind.1 q) (fun Γ1 ci q1 H1 cv J r1 wk D hD => ?_) fun _ z => z⟩
  cases hl : lcL (own.map (·.2)) t c f ci.2 Γ1 [] with
  | ok Γ2 acc =>
    rw [hl] at q1
    exact lc_turn (it := it) (scope := default) wk r1 hD hl fun H' r' => q1 H' _ r'
  | ex z => rw [hl] at q1; exact q1.elim
  | bad => rw [hl] at q1; exact q1.elim
theorem q_lc {it : XI} {own : List (Str × Nat)} {t : Tg} {c : XB} {scope : Scope} {pos : Pos} (hc : X.calm = true) (hN : X.N.Nodup) (hi : QI X B W tg iter it) (ok : BlkOk X.N X.env.scope scope own)
    (hg : ∀ (s : Shared) (H : Hp) (C : Addr) (cl : List (Str × Addr)) (fp : List Addr), QG (X.blk s H scope (compEnvC scope cl C X.env) fp) B (own.map (·.2)) tg t)
    (ht : ∀ (s : Shared) (H : Hp) (C : Addr) (cl : List (Str × Addr)) (fp : List Addr), QF (X.blk s H scope (compEnvC scope cl C X.env) fp) ifs c)
    (he : ∀ (s : Shared) (H : Hp) (C : Addr) (cl : List (Str × Addr)) (fp : List Addr), QE (X.blk s H scope (compEnvC scope cl C X.env) fp) B E0' elt f) (hs : ∀ x, foldedSetIterable iter X.env x = pure x := by intro _; rfl) :
    QE X B W (.ListComp elt [⟨tg, iter, ifs, 0⟩] scope pos) (lcE it (own.map (·.2)) t c f) :=
  PE.imp (pe_lc hc hN hi ok hg ht (fun s H C cl fp => q_own (he s H C cl fp)) hs) fun σ H Q ⟨β, Γ, stk, svs, r, q⟩ => lc_sat hi r q
theorem lcE_o {it : XI} {ws : List Nat} {t : Tg} {c : XB} {Γ Γ' : G} {e : E} (h : lcE it ws t c f Γ = .ok Γ' e) : ∃ acc, e = .o (.lst acc) := by
  unfold lcE at h
  cases hi : it Γ with
  | ok Γ1 ci =>
    rw [hi] at h
    simp only [Rs.bind_ok] at h
    split at h
    · cases h; exact ⟨_, rfl⟩
    · cases h
  | ex z => rw [hi] at h; cases h
  | bad => rw [hi] at h; cases h
/-- name = [..] on one line -/
theorem s_setLc {i : Nat} {y : Str} {py : Pos} {it : XI} {own : List (Str × Nat)} {t : Tg} {c : XB} {scope : Scope} {pos spos : Pos} (hc : X.calm = true) (hN : X.N.Nodup) (hy : X.N[i]? = some y) (hyl : X.env.scope.names.lookup y = some .local)
    (hsw : swapsWith (.ListComp elt [⟨tg, iter, ifs, 0⟩] scope pos) (some (.Name y py)) spos.line X.env = pure true) (hi : QI X B W tg iter it) (ok : BlkOk X.N X.env.scope scope own)
    (hg : ∀ (s : Shared) (H : Hp) (C : Addr) (cl : List (Str × Addr)) (fp : List Addr), QG (X.blk s H scope (compEnvC scope cl C X.env) fp) B (own.map (·.2)) tg t)
    (ht : ∀ (s : Shared) (H : Hp) (C : Addr) (cl : List (Str × Addr)) (fp : List Addr), QF (X.blk s H scope (compEnvC scope cl C X.env) fp) ifs c)
    (he : ∀ (s : Shared) (H : Hp) (C : Addr) (cl : List (Str × Addr)) (fp : List Addr), QE (X.blk s H scope (compEnvC scope cl C X.env) fp) B E0' elt f) (hs : ∀ x, foldedSetIterable iter X.env x = pure x := by intro _; rfl) (hp : i ∉ B := by decide) :
    QS X B W (.Assign [.Name y py] (.ListComp elt [⟨tg, iter, ifs, 0⟩] scope pos) spos) (asgS (nmT i) (lcE it (own.map (·.2)) t c f)) := by
  have base := ps_setLc (spos := spos) (g := tG X.K B (own.map (·.2)) t) (tt := tT X.K X.mg E0' c) (te := tE X.K X.mg E0' (Kv.own f)) hc hN hy hyl hsw hi ok hg ht (fun s H C cl fp => q_own (he s H C cl fp)) hs
  refine PS.imp base fun D σ H ⟨β, Γ, stk, svs, hβ, r, n, q⟩ => ?_
  have key : ∀ Γ' e H' v, Rel X.K β Γ' (e :: stk) σ (v :: svs) H' → (∀ j, e ≠ .b j) → (∀ σ' H', Rel X.K β (Γ'.set i (some e)) stk σ' svs H' → D.nx σ' H') → gName i v σ H' D.nx := fun Γ' e H' v r' hb q => q _ _ (r'.store hb (fun j z => n j z) fun q hq e => hp (e ▸ hβ q hq))
  refine lc_sat (t := t) (c := c) (f := f) hi r ?_
  have q := Rs.sat_out.1 q
  unfold Kv.own at q
  have q := Rs.sat_bind.1 q
  cases hl : lcE it (own.map (·.2)) t c f Γ with
  | ok Γ2 e =>
    rw [hl] at q
    intro H' v r'
    obtain ⟨acc, rfl⟩ := lcE_o hl
    exact key _ _ _ _ r' (fun j z => by cases z) q
  | ex z => rw [hl] at q; exact q
  | bad => rw [hl] at q; exact q
end
end Kv

set_option Elab.async false
set_option linter.all false
set_option maxRecDepth 100000
set_option maxHeartbeats 2000000
set_option autoImplicit false
/-! Kv, part K: the call of a def; its body. -/
namespace Kv
open PySem PySem.Spec L2
variable [Tbl]
def takeA : List Bool → G → List E → Option (G × List E × List Nat)
  | [], Γ, es => some (Γ, es, [])
  | _ :: _, Γ, [] => some (Γ, [], [])
  | false :: r, Γ, e :: es => (takeA r Γ es).map fun z => (z.1, e :: z.2.1, z.2.2)
  | true :: r, Γ, .b i :: es => match Γ[i]? with
    | some (some (.o d)) => (takeA r (Γ.set i none) es).map fun z => (z.1, .o d :: z.2.1, i :: z.2.2)
    | _ => none
  | true :: _, _, _ :: _ => none
def brw (Γ : G) : List E → Option (List E)
  | [] => some []
  | .b i :: r => match Γ[i]? with
    | some (some (.o d)) => (brw Γ r).map (.s d :: ·)
    | _ => none
  | .p x :: r => (brw Γ r).map (.p x :: ·)
  | .o x :: r => (brw Γ r).map (.o x :: ·)
  | .s x :: r => (brw Γ r).map (.s x :: ·)
def outsA (Γ : G) : Nat → List Bool → Option (List D)
  | _, [] => some []
  | k, false :: r => outsA Γ (k + 1) r
  | k, true :: r => match Γ[k]? with
    | some (some (.o d)) => (outsA Γ (k + 1) r).map (d :: ·)
    | _ => none
def backA : G → List Nat → List D → G
  | Γ, i :: is, d :: ds => backA (Γ.set i (some (.o d))) is ds
  | Γ, _, _ => Γ
def flg : List Bool → List V → List V
  | true :: r, v :: vs => v :: flg r vs
  | false :: r, _ :: vs => flg r vs
  | _, _ => []
/-- the slots that keep their first values -/
def protA (vs : List V) : Nat → List Bool → List (Nat × V)
  | _, [] => []
  | k, false :: r => protA vs (k + 1) r
  | k, true :: r => match vs[k]? with
    | some v => (k, v) :: protA vs (k + 1) r
    | none => protA vs (k + 1) r
inductive Sits (σ : SS) : List Nat → List V → Prop
  | nil : Sits σ [] []
  | cons {i : Nat} {v : V} {is : List Nat} {vs : List V} : σ[i]? = some (some v) → Sits σ is vs → Sits σ (i :: is) (v :: vs)
section
variable {K : PySem.W.Frag} {β : Base} {Γ : G} {stk : List E} {σ : SS} {svs : List V} {H : Hp}
theorem Rel.unrev {es : List E} {vs : List V} (r : Rel K β Γ (es.reverse ++ stk) σ (vs.reverse ++ svs) H) (hl : es.length = vs.length) : Rel K β Γ (es ++ stk) σ (vs ++ svs) H := by
  obtain ⟨M, N, T, h1, h2, h3, h4, h5⟩ := r.ex
  obtain ⟨M1, M2, q1, q2, q3, q4, q5⟩ := RK.front h2 hl
  exact ⟨⟨M, N, T, h1, RK.join q1 q2 q3 q4 q5, h3, h4, h5⟩, r.prot⟩
theorem RK.split' {H : Hp} {T : AP} {as bs : List E} {us ws : List V} {N : AP} (h2 : RK K H T σ (as ++ bs) (us ++ ws) N) (hl : as.length = us.length) :
    ∃ M1 M2 : AP, RK K H T σ as us M1 ∧ RK K H T σ bs ws M2 ∧ Sep M1 M2 ∧ Le M1 N ∧ Le M2 N := by
  obtain ⟨us', ws', M1, M2, e, h3, h4, h5, h6, h7⟩ := RK.split h2
  have l3 := h3.length
  obtain ⟨rfl, rfl⟩ : us = us' ∧ ws = ws' := List.append_inj e (by omega)
  exact ⟨M1, M2, h3, h4, h5, h6, h7⟩
theorem Rel.moveAt {pre : List E} {pvs : List V} {i : Nat} {d : D} {v : V} (r : Rel K β Γ (pre ++ .b i :: stk) σ (pvs ++ v :: svs) H) (hl : pre.length = pvs.length) (h : Γ[i]? = some (some (.o d))) :
    σ[i]? = some (some v) ∧ Rel K β (Γ.set i none) (pre ++ .o d :: stk) σ (pvs ++ v :: svs) H := by
  obtain ⟨M, N, T, h1, h2, h3, h4, h5⟩ := r.ex
  obtain ⟨v', m, R, a, b, s, l1, l2, g, _⟩ := h1.get h
  obtain ⟨M1, M2, q1, q2, q3, q4, q5⟩ := RK.split' h2 hl
  cases q2 with
  | nm e q =>
    have e0 := e
    rw [a] at e; cases e
    refine ⟨e0, ⟨⟨R, U m N, T, g, RK.join q1 (RK.cons (N := U m M2) b q (h3.mono l1 q5) Le.inl Le.inr) (Sep.ur (h3.symm.mono q4 l1) q3) (q4.trans Le.inr) (Le.u Le.inl (q5.trans Le.inr)), s.symm.ur (h3.mono l2 Le.rfl), ?_, ?_⟩, r.prot⟩⟩
    · exact h4.mono (Le.u (l2.trans Le.inl) (Le.u (l1.trans Le.inl) Le.inr)) Le.rfl
    · exact h5.mono (Le.u (l2.trans Le.inl) (Le.u (l1.trans Le.inl) Le.inr)) Le.rfl
  | cons h _ _ _ _ => cases h
theorem takeA_ok : ∀ {fl : List Bool} {es pre : List E} {vs pvs : List V} {Γ Γ2 : G} {es2 : List E} {is : List Nat}, takeA fl Γ es = some (Γ2, es2, is) → pre.length = pvs.length → es.length = vs.length → Rel K β Γ (pre ++ (es ++ stk)) σ (pvs ++ (vs ++ svs)) H →
    es2.length = vs.length ∧ Rel K β Γ2 (pre ++ (es2 ++ stk)) σ (pvs ++ (vs ++ svs)) H ∧ Sits σ is (flg fl vs)
  | [], es, pre, vs, pvs, Γ, Γ2, es2, is, h, hl, hv, r => by
    simp only [takeA, Option.some.injEq, Prod.mk.injEq] at h
    obtain ⟨rfl, rfl, rfl⟩ := h
    exact ⟨hv, r, by cases vs <;> exact .nil⟩
  | _ :: _, [], pre, vs, pvs, Γ, Γ2, es2, is, h, hl, hv, r => by
    simp only [takeA, Option.some.injEq, Prod.mk.injEq] at h
    obtain ⟨rfl, rfl, rfl⟩ := h
    cases vs with
    | nil => exact ⟨rfl, r, by rename_i b _; cases b <;> exact .nil⟩
    | cons _ _ => simp at hv
  | false :: fr, e :: es, pre, vs, pvs, Γ, Γ2, es2, is, h, hl, hv, r => by
    cases vs with
    | nil => simp at hv
    | cons v vs =>
      simp only [takeA, Option.map_eq_some_iff] at h
      obtain ⟨⟨Γ3, es3, is3⟩, h, h'⟩ := h
      cases h'
      obtain ⟨a, b, c⟩ := takeA_ok (pre := pre ++ [e]) (pvs := pvs ++ [v]) (vs := vs) h (by simp [hl]) (by simpa using hv) (by simpa using r)
      exact ⟨by simp [a], by simpa using b, c⟩
  | true :: fr, e :: es, pre, vs, pvs, Γ, Γ2, es2, is, h, hl, hv, r => by
    cases vs with
    | nil => simp at hv
    | cons v vs =>
      cases e with
      | b i =>
        simp only [takeA] at h
        split at h
        · rename_i d hd
          simp only [Option.map_eq_some_iff] at h
          obtain ⟨⟨Γ3, es3, is3⟩, h, h'⟩ := h
          cases h'
          obtain ⟨e1, r1⟩ := r.moveAt hl hd
          obtain ⟨a, b, c⟩ := takeA_ok (pre := pre ++ [.o d]) (pvs := pvs ++ [v]) (vs := vs) h (by simp [hl]) (by simpa using hv) (by simpa using r1)
          exact ⟨by simp [a], by simpa using b, .cons e1 c⟩
        · cases h
      | p x => simp [takeA] at h
      | o x => simp [takeA] at h
      | s x => simp [takeA] at h
/-- borrowed -/
theorem RK.borrow {T T0 M : AP} (g : RG K H T Γ σ M) (lT : Le T T0) (lM : Le M T0) : ∀ {es es' : List E} {vs : List V} {N : AP}, RK K H T σ es vs N → brw Γ es = some es' → RG K H T0 (es'.map some) (vs.map some) N
  | _, _, _, _, .nil, h => by cases h; exact .nil
  | .b i :: es, es', _, N, .nm e r, h => by
    simp only [brw] at h
    split at h
    · rename_i d hd
      simp only [Option.map_eq_some_iff] at h
      obtain ⟨z, h, rfl⟩ := h
      obtain ⟨v', m, R, a, b, s, l1, l2, _⟩ := g.get hd
      rw [a] at e; cases e
      cases b with
      | o b => exact .full (m := No) (.s (b.mono (l1.trans lM))) (RK.borrow g lT lM r h) Sep.no Le.no Le.rfl
    · cases h
  | .p x :: es, es', _, N, .cons hh r s a b, h => by
    simp only [brw, Option.map_eq_some_iff] at h
    obtain ⟨z, h, rfl⟩ := h
    exact .full (hh.tmono lT) (RK.borrow g lT lM r h) s a b
  | .o x :: es, es', _, N, .cons hh r s a b, h => by
    simp only [brw, Option.map_eq_some_iff] at h
    obtain ⟨z, h, rfl⟩ := h
    exact .full (hh.tmono lT) (RK.borrow g lT lM r h) s a b
  | .s x :: es, es', _, N, .cons hh r s a b, h => by
    simp only [brw, Option.map_eq_some_iff] at h
    obtain ⟨z, h, rfl⟩ := h
    exact .full (hh.tmono lT) (RK.borrow g lT lM r h) s a b
theorem brw_len : ∀ {es es' : List E}, brw Γ es = some es' → es'.length = es.length
  | [], _, h => by cases h; rfl
  | .b i :: es, es', h => by
    simp only [brw] at h
    split at h
    · simp only [Option.map_eq_some_iff] at h
      obtain ⟨z, h, rfl⟩ := h
      simp [brw_len h]
    · cases h
  | .p x :: es, es', h => by
    simp only [brw, Option.map_eq_some_iff] at h
    obtain ⟨z, h, rfl⟩ := h
    simp [brw_len h]
  | .o x :: es, es', h => by
    simp only [brw, Option.map_eq_some_iff] at h
    obtain ⟨z, h, rfl⟩ := h
    simp [brw_len h]
  | .s x :: es, es', h => by
    simp only [brw, Option.map_eq_some_iff] at h
    obtain ⟨z, h, rfl⟩ := h
    simp [brw_len h]
theorem brw_nb : ∀ {es es' : List E}, brw Γ es = some es' → NoB es'
  | [], _, h => by cases h; exact .nil
  | .b i :: es, es', h => by
    simp only [brw] at h
    split at h
    · simp only [Option.map_eq_some_iff] at h
      obtain ⟨z, h, rfl⟩ := h
      exact (brw_nb h).cons fun j z => by cases z
    · cases h
  | .p x :: es, es', h => by
    simp only [brw, Option.map_eq_some_iff] at h
    obtain ⟨z, h, rfl⟩ := h
    exact (brw_nb h).cons fun j z => by cases z
  | .o x :: es, es', h => by
    simp only [brw, Option.map_eq_some_iff] at h
    obtain ⟨z, h, rfl⟩ := h
    exact (brw_nb h).cons fun j z => by cases z
  | .s x :: es, es', h => by
    simp only [brw, Option.map_eq_some_iff] at h
    obtain ⟨z, h, rfl⟩ := h
    exact (brw_nb h).cons fun j z => by cases z
def Loose (e : E) : Prop := (∃ x, e = .p x) ∨ ∃ d, e = .o d
theorem RK.loose {H : Hp} {T T' : AP} {σ σ' : SS} : ∀ {es : List E} {vs : List V} {N : AP}, (∀ e ∈ es, Loose e) → RK K H T σ es vs N → RK K H T' σ' es vs N
  | _, _, _, _, .nil => .nil
  | _, _, _, h, .nm _ _ => by
    rcases h _ List.mem_cons_self with ⟨x, e⟩ | ⟨x, e⟩ <;> cases e
  | e :: _, _, _, h, .cons hh r s a b => by
    refine .cons ?_ (RK.loose (fun e z => h e (List.mem_cons_of_mem _ z)) r) s a b
    cases hh with
    | p hh => exact .p hh
    | o hh => exact .o hh
    | s hh => rcases h _ List.mem_cons_self with ⟨x, e⟩ | ⟨x, e⟩ <;> cases e
/-- a def is entered, and left -/
theorem Rel.callee {es es' : List E} {vs : List V} (r : Rel K β Γ (es ++ stk) σ (vs ++ svs) H) (hl : es.length = vs.length) (hb : brw Γ es = some es') (prot : List (Nat × V)) (hp : ∀ q ∈ prot, vs[q.1]? = some q.2) :
    ∃ β0 : Base, β0.prot = prot ∧ Rel K β0 (es'.map some) [] (vs.map some) [] H ∧ (∀ H', XKeep β0 H' → XKeep β H') ∧
      ∀ (Γf : G) (outs : List E) (σf : SS) (ovs : List V) (H' : Hp), (∀ e ∈ outs, Loose e) → Rel K β0 Γf outs σf ovs H' → Rel K β Γ (outs ++ stk) σ (ovs ++ svs) H' := by
  obtain ⟨M, N, T, h1, h2, h3, h4, h5⟩ := r.ex
  obtain ⟨N1, N2, q1, q2, q3, q4, q5⟩ := RK.split' h2 hl
  have nM : ∀ a, N1 a → MutE H a := fun a h => h5.live a (.inr (q4 a h))
  refine ⟨⟨H, N1, U T M, prot⟩, rfl, ⟨⟨N1, No, U T M, q1.borrow h1 Le.inl Le.inr hb, .nil, Sep.nor, ?_, ?_⟩, fun q hq => by simp only [List.getElem?_map]; rw [hp q hq]; rfl⟩, fun H' k => ⟨fun a o nt e f => ?_, fun a z => h5.old a (k.2.1 a z), k.2.2⟩, ?_⟩
  · exact Sep.u (Sep.ur (h4.mono (q4.trans Le.inr) Le.rfl) (h3.symm.mono q4 Le.rfl)) Sep.no
  · refine ⟨fun _ _ _ h _ => h, fun _ h => h, fun a h => .inl (h.elim id fun z => z.elim), fun _ h => .inr (.inl h), fun a h => h.elim (nM a) fun z => z.elim, fun a h => ?_, h5.tabs⟩
    rcases h with h | h
    · exact h5.liveT a h
    · exact h5.live a (.inl h)
  · refine k.1 a o nt (h5.keep a o nt e f) fun z => ?_
    rcases h5.own a (.inr (q4 a z)) with q | q
    · exact f q
    · exact q o nt e
  · intro Γf outs σf ovs H' hL r'
    obtain ⟨M', N', T', g1, g2, g3, g4, g5⟩ := r'.ex
    have keep : ∀ a o, NT o → H a = some o → ¬ N1 a → H' a = some o := g5.keep
    have old : ∀ a, NN H' a → NN H a := g5.old
    have own : ∀ a, U M' N' a → N1 a ∨ NN H a := g5.own
    have kp : ∀ {F : AP}, (∀ a, F a → MutE H a) → Sep N1 F → Kp F H H' := fun hl hF => by
      refine ⟨fun a o f e => keep a o ((hl a f).nt e) e fun z => hF a z f, fun a xs e => keep a _ (fun _ z => by cases z) e fun z => ?_, fun a o u e => keep a _ (fun _ z => by cases z) e fun z => ?_⟩
      · rcases nM a z with ⟨_, q⟩ | ⟨_, q⟩ <;> (rw [q] at e; cases e)
      · rcases nM a z with ⟨_, q⟩ | ⟨_, q⟩ <;> (rw [q] at e; cases e)
    have sM : Sep N1 M := h3.symm.mono q4 Le.rfl
    have sT : Sep N1 T := h4.mono (q4.trans Le.inr) Le.rfl
    have outM : Sep M N' := fun a x y => by
      rcases own a (.inr y) with z | z
      · exact sM a z x
      · exact (h5.live a (.inl x)).nn z
    have outN : Sep N' N2 := fun a x y => by
      rcases own a (.inr x) with z | z
      · exact q3 a z y
      · exact (h5.live a (.inr (q5 a y))).nn z
    have outT : Sep N' T := fun a x y => by
      rcases own a (.inr x) with z | z
      · exact sT a z y
      · exact (h5.liveT a y).nn z
    refine ⟨⟨M, U N' N2, T, h1.kp (kp (fun a z => z.elim (fun z => h5.live a (.inl z)) (h5.liveT a)) (Sep.ur sM sT)), RK.join (g2.loose hL) (q2.kp (kp (fun a z => z.elim (fun z => h5.live a (.inr (q5 a z))) (h5.liveT a)) (Sep.ur q3 sT))) outN Le.inl Le.inr, Sep.ur outM (h3.mono Le.rfl q5), ?_, ?_⟩, r.prot⟩
    · exact Sep.u (h4.mono Le.inl Le.rfl) (Sep.u outT (h4.mono (q5.trans Le.inr) Le.rfl))
    · have live' : ∀ a, MutE H a → ¬ N1 a → MutE H' a := fun a h n => by
        rcases h with ⟨x, h⟩ | ⟨x, h⟩
        · exact .inl ⟨x, keep a _ (fun _ z => by cases z) h n⟩
        · exact .inr ⟨x, keep a _ (fun _ z => by cases z) h n⟩
      refine ⟨fun a o nt e f => ?_, fun a z => h5.old a (old a z), fun a z => ?_, h5.shr, fun a z => ?_, fun a z => live' a (h5.liveT a z) fun w => sT a w z, g5.tabs⟩
      · refine keep a o nt (h5.keep a o nt e f) fun z => ?_
        rcases h5.own a (.inr (q4 a z)) with q | q
        · exact f q
        · exact q o nt e
      · rcases z with z | z | z
        · exact h5.own a (.inl z)
        · rcases own a (.inr z) with w | w
          · exact h5.own a (.inr (q4 a w))
          · exact .inr (h5.old a w)
        · exact h5.own a (.inr (q5 a z))
      · rcases z with z | z | z
        · exact live' a (h5.live a (.inl z)) fun w => sM a w z
        · exact g5.live a (.inr z)
        · exact live' a (h5.live a (.inr (q5 a z))) fun w => q3 a w z
/-- at a def's end its changed arguments come to hand -/
theorem Rel.outs {vs : List V} : ∀ {fl : List Bool} {k : Nat} {ds : List D} {Γ : G} {σf : SS} {es : List E} {us : List V}, outsA Γ k fl = some ds → vs.length = k + fl.length → (∀ q ∈ protA vs k fl, σf[q.1]? = some (some q.2)) →
    Rel K β Γ es σf us H → ∃ Γ' : G, Rel K β Γ' (ds.reverse.map E.o ++ es) σf ((flg fl (vs.drop k)).reverse ++ us) H
  | [], k, ds, Γ, σf, es, us, h, _, _, r => by
    cases h
    exact ⟨Γ, by cases vs.drop k <;> exact r⟩
  | false :: fl, k, ds, Γ, σf, es, us, h, hl, hp, r => by
    have hk : k < vs.length := by simp at hl; omega
    rw [List.drop_eq_getElem_cons hk]
    exact Rel.outs (fl := fl) (k := k + 1) h (by simp at hl; omega) (fun q hq => hp q hq) r
  | true :: fl, k, ds, Γ, σf, es, us, h, hl, hp, r => by
    have hk : k < vs.length := by simp at hl; omega
    simp only [outsA] at h
    split at h
    · rename_i d hd
      simp only [Option.map_eq_some_iff] at h
      obtain ⟨z, h, rfl⟩ := h
      have hv : vs[k]? = some vs[k] := List.getElem?_eq_getElem hk
      have hp' : ∀ q ∈ (k, vs[k]) :: protA vs (k + 1) fl, σf[q.1]? = some (some q.2) := fun q hq => hp q (by unfold protA; rw [hv]; exact hq)
      have e1 : σf[k]? = some (some vs[k]) := hp' _ List.mem_cons_self
      obtain ⟨v, a, r1⟩ := r.readO hd
      rw [e1] at a
      cases a
      have r2 := r1.move hd
      have keepO : ∀ {fl : List Bool} {j : Nat} {ds : List D} {Γ : G}, k < j → outsA Γ j fl = some ds → outsA (Γ.set k none) j fl = some ds := by
        intro fl
        induction fl with
        | nil => intro j ds Γ _ h; exact h
        | cons b fl ih =>
          intro j ds Γ hj h
          cases b with
          | false => exact ih (by omega) h
          | true =>
            simp only [outsA] at h ⊢
            rw [List.getElem?_set_ne (by omega)]
            split at h
            · rename_i dd hdd
              simp only [Option.map_eq_some_iff] at h
              obtain ⟨z, h, rfl⟩ := h
              rw [hdd]
              simp only [ih (j := j + 1) (by omega) h, Option.map_some]
            · cases h
      obtain ⟨Γ', r3⟩ := Rel.outs (fl := fl) (k := k + 1) (keepO (Nat.lt_succ_self k) h) (by simp at hl; omega) (fun q hq => hp' q (List.mem_cons_of_mem _ hq)) r2
      refine ⟨Γ', ?_⟩
      rw [List.drop_eq_getElem_cons hk]
      simpa [flg] using r3
    · cases h
/-- .. and go back into their slots -/
theorem Rel.unmove {pre : List E} {pvs : List V} {i : Nat} {d : D} {v : V} (r : Rel K β Γ (pre ++ .o d :: stk) σ (pvs ++ v :: svs) H) (hl : pre.length = pvs.length) (h : σ[i]? = some (some v)) :
    Rel K β (Γ.set i (some (.o d))) (pre ++ stk) σ (pvs ++ svs) H := by
  obtain ⟨M, N, T, h1, h2, h3, h4, h5⟩ := r.ex
  obtain ⟨M1, M2, q1, q2, q3, q4, q5⟩ := RK.split' h2 hl
  cases q2 with
  | cons hh q s a b =>
    rename_i m N2
    have e : σ.set i (some v) = σ := by
      apply List.ext_getElem?
      intro j
      by_cases hj : i = j
      · subst hj
        have hi : i < σ.length := by
          by_cases hi : i < σ.length
          · exact hi
          · rw [List.getElem?_eq_none (by omega)] at h; cases h
        rw [List.getElem?_set_self hi, h]
      · rw [List.getElem?_set_ne hj]
    have g := h1.put (i := i) hh (h3.symm.mono (a.trans q5) Le.rfl)
    rw [e] at g
    refine ⟨⟨U m M, U M1 N2, T, g, RK.join q1 q (q3.mono Le.rfl b) Le.inl Le.inr, ?_, ?_, ?_⟩, r.prot⟩
    · exact Sep.u (Sep.ur (q3.symm.mono a Le.rfl) s) (Sep.ur (h3.mono Le.rfl q4) (h3.mono Le.rfl (b.trans q5)))
    · exact h4.mono (Le.u (Le.u (a.trans (q5.trans Le.inr)) Le.inl) (Le.u (q4.trans Le.inr) (b.trans (q5.trans Le.inr)))) Le.rfl
    · exact h5.mono (Le.u (Le.u (a.trans (q5.trans Le.inr)) Le.inl) (Le.u (q4.trans Le.inr) (b.trans (q5.trans Le.inr)))) Le.rfl
theorem Rel.back {e : E} {v : V} : ∀ {is : List Nat} {us : List V} {ds : List D} {Γ : G}, Sits σ is us → ds.length = us.length → Rel K β Γ (e :: (ds.map E.o ++ stk)) σ (v :: (us ++ svs)) H →
    Rel K β (backA Γ is ds) (e :: stk) σ (v :: svs) H
  | _, _, [], Γ, .nil, _, r => r
  | _, _, _ :: _, _, .nil, h, _ => by simp at h
  | _, _, [], _, .cons _ _, h, _ => by simp at h
  | _, _, d :: ds, Γ, .cons h t, hl, r => by
    have r1 := Rel.unmove (pre := [e]) (pvs := [v]) r rfl h
    have := Rel.back (Γ := Γ.set _ (some (.o d))) t (by simpa using hl) r1
    exact this
theorem Rel.revK {es : List E} {us : List V} (r : Rel K β Γ es σ us H) : Rel K β Γ es.reverse σ us.reverse H := by
  obtain ⟨M, N, T, h1, h2, h3, h4, h5⟩ := r.ex
  exact ⟨⟨M, N, T, h1, h2.rev, h3, h4, h5⟩, r.prot⟩
theorem RG.pad {T : AP} {M : AP} : ∀ {Γ : G} {σ : SS} (n : Nat), RG K H T Γ σ M → RG K H T (Γ ++ List.replicate n none) (σ ++ List.replicate n none) M
  | [], _, 0, h => by simpa using h
  | [], [], n + 1, h => by
    have := RG.pad (Γ := []) (σ := []) n h
    rw [List.replicate_succ]
    exact .hole this
  | _ :: _, _, n, .hole r => .hole (RG.pad n r)
  | _ :: _, _, n, .full h r s a b => .full h (RG.pad n r) s a b
end

/-- what a def does: its arguments; its slots at the end, its value -/
abbrev FnS := List E → Rs E
def callE (fl : List Bool) (F : FnS) (g : X2) : X1 := fun Γ => (g Γ).bind fun Γ1 es => match takeA fl Γ1 es with
  | some (Γ2, es2, is) => (match brw Γ2 es2 with
    | some es3 => (match F es3 with
      | .ok Γf e => (match outsA Γf 0 fl with
        | some ds => (match e with
          | .p x => .ok (backA Γ2 is ds) (.p x)
          | .o d => .ok (backA Γ2 is ds) (.o d)
          | _ => .bad)
        | none => .bad)
      | .ex c => .ex c
      | .bad => .bad)
    | none => .bad)
  | none => .bad
def spK (K : PySem.W.Frag) (mg : Str → Option Value) (fl : List Bool) (F : FnS) : Sp := fun vs H Q E => ∃ (β : Base) (es : List Kv.E), es.length = fl.length ∧ vs.length = fl.length ∧ β.prot = protA vs 0 fl ∧ Rel K β (es.map some) [] (vs.map some) [] H ∧
  (F es).sat (fun Γ' e => Loose e → ∀ H' v σ', Rel K β Γ' [e] σ' [v] H' → Q v H') (ExW mg β E)
theorem protA_mem {vs : List V} : ∀ {fl : List Bool} {k : Nat}, ∀ q ∈ protA vs k fl, vs[q.1]? = some q.2
  | [], k, q, h => by cases h
  | false :: fl, k, q, h => protA_mem (fl := fl) (k := k + 1) q h
  | true :: fl, k, q, h => by
    unfold protA at h
    split at h
    · rename_i v hv
      rcases List.mem_cons.mp h with h | h
      · subst h; exact hv
      · exact protA_mem (fl := fl) (k := k + 1) q h
    · exact protA_mem (fl := fl) (k := k + 1) q h
theorem flg_len {fl : List Bool} {vs : List V} {Γ : G} {ds : List D} {k : Nat} (h : outsA Γ k fl = some ds) (hl : vs.length = fl.length) : ds.length = (flg fl vs).length := by
  induction fl generalizing vs k ds with
  | nil => cases h; cases vs <;> rfl
  | cons b fl ih =>
    cases vs with
    | nil => simp at hl
    | cons v vs =>
      cases b with
      | false => exact ih (ds := ds) h (by simpa using hl)
      | true =>
        simp only [outsA] at h
        split at h
        · simp only [Option.map_eq_some_iff] at h
          obtain ⟨z, h, rfl⟩ := h
          simp [flg, ih h (by simpa using hl)]
        · cases h
section
variable {X : Cx} {CX : CXT} {B : List Nat} {W : XK} {k : Nat} {f : Addr} {fd : FuncData} {ps : List Str} {fl : List Bool} {F : FnS} {x : Str} {p pos : Pos} {e : Expr} {es : List Expr} {g : X2} {β : Base}
theorem call_ok {K : PySem.W.Frag} {mg : Str → Option Value} {Γ1 : G} {stk : List E} {σ : SS} {svs vs : List V} {H : Hp} {es : List E} {Q : VK} (hl : es.length = vs.length) (hn : es.length = fl.length) (r : Rel K β Γ1 (es.reverse ++ stk) σ (vs.reverse ++ svs) H)
    (q : ((callE fl F fun _ => .ok Γ1 es) Γ1).sat (fun Γ' e => ∀ H' v, Rel K β Γ' (e :: stk) σ (v :: svs) H' → Q v H') (ExW mg β W)) : spK K mg fl F vs H Q W := by
  unfold callE at q
  simp only [Rs.bind_ok] at q
  split at q
  · rename_i Γ2 es2 is ht
    split at q
    · rename_i es3 hb
      obtain ⟨a1, r2, sits⟩ := takeA_ok (pre := []) (pvs := []) ht rfl hl (r.unrev hl)
      have n3 := brw_len hb
      obtain ⟨β0, hp, r0, hx, leave⟩ := Rel.callee (es := es2) (vs := vs) r2 a1 hb (protA vs 0 fl) (fun q hq => protA_mem q hq)
      refine ⟨β0, es3, by omega, by omega, hp, r0, ?_⟩
      cases hF : F es3 with
      | bad => rw [hF] at q; exact q
      | ex c =>
        rw [hF] at q
        exact fun cls d H' h1 h2 => q cls d H' h1 (hx H' h2)
      | ok Γf e =>
        rw [hF] at q
        dsimp only at q
        split at q
        · rename_i ds hd
          intro hL H' v σ' r'
          have hpr := r'.prot
          rw [hp] at hpr
          obtain ⟨Γ', r3⟩ := Rel.outs (vs := vs) hd (by omega) hpr r'
          have r4 := r3.revK
          simp only [List.drop_zero, List.reverse_append, List.reverse_cons, List.reverse_nil, List.nil_append, List.reverse_reverse, List.map_reverse, List.singleton_append] at r4
          have r5 := leave _ _ _ _ _ (fun e' he' => by
            rcases List.mem_cons.mp he' with h | h
            · rw [h]; exact hL
            · obtain ⟨d, _, e⟩ := List.mem_map.mp h; exact .inr ⟨d, e.symm⟩) r4
          have r6 := Rel.back (ds := ds) sits (flg_len hd (by omega)) r5
          rcases hL with ⟨x, rfl⟩ | ⟨d, rfl⟩
          · exact q _ _ r6
          · exact q _ _ r6
        · exact q.elim
    · exact q.elim
  · exact q.elim
theorem callE_sat {K : PySem.W.Frag} {mg : Str → Option Value} {Γ Γ1 : G} {es : List E} {q : G → E → Prop} {z : Exn → Prop} (hg : g Γ = .ok Γ1 es) (h : (callE fl F g Γ).sat q z) : (callE fl F (fun _ => .ok Γ1 es) Γ1).sat q z := by
  unfold callE at h ⊢
  rw [hg] at h
  exact h
def callN (fl : List Bool) (F : FnS) (g : X2) : X1 := fun Γ => (g Γ).bind fun Γ1 es => if es.length = fl.length then callE fl F (fun _ => .ok Γ1 es) Γ1 else .bad
theorem q_call (Fn : FnOk X.prog X.w X.K X.mg X.base CX k f fd ps (spK X.K X.mg fl F)) (hr : Room k X.A) (hg : Gl X x) (hm : X.mg x = some (.ref f)) (hk : PySem.W.keepIn X.K (.ref f) = true) (hb : Binds X.K fd ps []) (hx : Passes CX X W)
    (ha : QA X B W (e :: es) g) (hdb : (x == ("__debug__" : Str)) = false := by decide) (he : starEach (e :: es) X.env = (false, eval e X.env) :: starEach es X.env := by rfl) (hpl : (backTo pos (starEach es X.env)).any (·.1) = false := by rfl) :
    QE X B W (.Call (.Name x p) (e :: es) [] pos) (callN fl F g) := PE.imp (pe_call Fn hr hg hm hk hb .nil hx ha hdb he hpl) fun σ H Q ⟨β, Γ, stk, svs, r, q⟩ => by
  refine ⟨β, Γ, stk, svs, r, Rs.sat_mono (Rs.sat_bind.1 q) (fun Γ1 xs q1 H1 vs hl r1 => ?_) fun _ z => z⟩
  split at q1
  · rename_i hn
    rw [List.append_nil]
    exact call_ok hl hn r1 q1
  · exact q1.elim
theorem q_call0 (Fn : FnOk X.prog X.w X.K X.mg X.base CX k f fd ps (spK X.K X.mg [] F)) (hr : Room k X.A) (hg : Gl X x) (hm : X.mg x = some (.ref f)) (hk : PySem.W.keepIn X.K (.ref f) = true) (hb : Binds X.K fd ps []) (hx : Passes CX X W)
    (hdb : (x == ("__debug__" : Str)) = false := by decide) : QE X B W (.Call (.Name x p) [] [] pos) (callN [] F nilA) := PE.imp (pe_call0 Fn hr hg hm hk hb .nil hx hdb) fun σ H Q ⟨β, Γ, stk, svs, r, q⟩ => by
  exact call_ok (es := []) (vs := []) rfl rfl r q
end
/-! ### a def's body -/
def flI : Nat → List Bool → List Nat
  | _, [] => []
  | k, true :: r => k :: flI (k + 1) r
  | k, false :: r => flI (k + 1) r
theorem protA_in {vs : List V} : ∀ {fl : List Bool} {k : Nat}, ∀ q ∈ protA vs k fl, q.1 ∈ flI k fl
  | [], k, q, h => by cases h
  | false :: fl, k, q, h => protA_in (fl := fl) (k := k + 1) q h
  | true :: fl, k, q, h => by
    unfold protA at h
    split at h
    · rcases List.mem_cons.mp h with h | h
      · subst h; exact List.mem_cons_self
      · exact List.mem_cons_of_mem _ (protA_in (fl := fl) (k := k + 1) q h)
    · exact List.mem_cons_of_mem _ (protA_in (fl := fl) (k := k + 1) q h)
def fnE (n : Nat) (b : X3) : FnS := fun es => match b (es.map some ++ List.replicate n none) with
  | .rt Γ (.p x) => .ok Γ (.p x)
  | .rt Γ (.o x) => .ok Γ (.o x)
  | .nx Γ => .ok Γ (.p .non)
  | .ex c => .ex c
  | _ => .bad
theorem body_ok {K : PySem.W.Frag} {mg : Str → Option Value} {fl : List Bool} {n : Nat} {b : X3} {vs : List V} {H : Hp} {Q : VK} {E : XK} {N : List Str} (hn : N.length = fl.length + n) (h : spK K mg fl (fnE n b) vs H Q E) :
    tS K mg (flI 0 fl) E b { nx := fun _ H' => Q .non H', rt := Q } (L2.start N vs) H := by
  obtain ⟨β, es, h1, h2, h3, r, q⟩ := h
  have e : L2.start N vs = vs.map some ++ List.replicate n none := by
    unfold L2.start; rw [hn, h2, Nat.add_sub_cancel_left]
  rw [e]
  refine ⟨β, es.map some ++ List.replicate n none, [], [], fun q hq => protA_in q (h3 ▸ hq), ?_, .nil, ?_⟩
  · obtain ⟨M, N', T, g1, g2, g3, g4, g5⟩ := r.ex
    refine ⟨⟨M, N', T, g1.pad n, ?_, g3, g4, g5⟩, fun q hq => ?_⟩
    · cases g2; exact .nil
    · have hp := r.prot q hq
      rw [List.getElem?_append_left]
      · exact hp
      · by_cases hi : q.1 < (vs.map some).length
        · exact hi
        · rw [List.getElem?_eq_none (by omega)] at hp; cases hp
  · unfold fnE at q
    cases hb : b (es.map some ++ List.replicate n none) with
    | nx Γ =>
      rw [hb] at q
      intro σ H' r'
      exact q (.inl ⟨_, rfl⟩) H' _ σ (r'.pushP .non)
    | rt Γ e =>
      rw [hb] at q
      cases e with
      | p x => exact fun σ H' v r' => q (.inl ⟨_, rfl⟩) H' v σ r'
      | o x => exact fun σ H' v r' => q (.inr ⟨_, rfl⟩) H' v σ r'
      | s x => exact q.elim
      | b x => exact q.elim
    | bk Γ => rw [hb] at q; exact q.elim
    | ct Γ => rw [hb] at q; exact q.elim
    | ex c => rw [hb] at q; exact q
    | bad => rw [hb] at q; exact q.elim
section
variable {P : Program} {w : World} {K : PySem.W.Frag} {mg : Str → Option Value} {base : Heap}
theorem fn_ok {x qual : Str} {st : Stmt} {f : Addr} {fd : FuncData} {N ps : List Str} {k n : Nat} {fl : List Bool} {b : X3} (F : L2.Fun K x qual st f fd) (S : FnScope N ps (defScope st)) (hps : fl.length = ps.length) (hn : N.length = fl.length + n)
    (hbody : ∀ (cdv : Value) (A : Around) (outer : List Env) (s : Shared) (H : Hp) (E : XK), Room k (A.deeper (PyProof.Rows.envOfC qual (defScope st) s.heap.objs.size f cdv)) →
      QB (cxOf (L2.CX P w) P w K mg base N qual (defScope st) f cdv A outer s H E) (flI 0 fl) E (defBody st) b) : FnOk P w K mg base (L2.CX P w) (k + 1) f fd ps (spK K mg fl (fnE n b)) :=
  F.okX S (fun vs H Q E ⟨_, _, _, h, _⟩ => h.trans hps) fun cdv A outer s H vs Q E hr hsp => ⟨_, hbody cdv A outer s H E hr, body_ok hn hsp⟩
end
end Kv

set_option Elab.async false
set_option linter.all false
set_option maxRecDepth 100000
set_option maxHeartbeats 2000000
set_option autoImplicit false
/-! Kv, part L: chains of comparisons; members of any kind; dicts with lists in them; dict(..), list(d). -/
namespace Kv
open PySem PySem.Spec L2
variable [Tbl]
section
variable {X : Cx} {B : List Nat} {β : Base} {W : XK} {e a b c ee o : Expr} {es : List Expr} {f h k : X1}
/-! ### chains -/
def chE (g g' : Int → Int → Bool) (f h k : X1) : X1 := fun Γ => (f Γ).bind fun Γ1 a => (h Γ1).bind fun Γ2 b => match a, b with
  | .p (.int i), .p (.int j) => if g i j = true then (k Γ2).bind fun Γ3 c => (match c with | .p (.int l) => .ok Γ3 (.p (.bl (g' j l))) | _ => .bad) else .ok Γ2 (.p (.bl false))
  | _, _ => .bad
theorem ch_ok {g g' : Int → Int → Bool} (ha : QE X B W a f) (hb : QE X B W b h) (hc : QE X B W c k) {σ : SS} {H : Hp} {Q : VK} (q : tE X.K X.mg W (chE g g' f h k) σ H Q) :
    tChain (rI0 fun i j => .bl (g i j)) (rI0 fun i j => .bl (g' i j)) (tE X.K X.mg W f) (tE X.K X.mg W h) (tE X.K X.mg W k) σ H Q := by
  obtain ⟨β, Γ, stk, svs, r, q⟩ := q
  refine ⟨β, Γ, stk, svs, r, Rs.sat_mono (Rs.sat_bind.1 q) (fun Γ1 x q1 H1 v r1 => ?_) fun _ z => z⟩
  refine ⟨β, Γ1, _, _, r1, Rs.sat_mono (Rs.sat_bind.1 q1) (fun Γ2 y q2 H2 w r2 => ?_) fun _ z => z⟩
  split at q2
  · rename_i i j
    have h1 := r2.topP.int_inv
    have h2 := r2.popE.topP.int_inv
    subst h1 h2
    refine ⟨i, j, rfl, rfl, _, rfl, ?_⟩
    split at q2
    · rename_i hg
      rw [if_pos hg]
      refine ⟨β, Γ2, _, _, r2.popE.popE, Rs.sat_mono (Rs.sat_bind.1 q2) (fun Γ3 z q3 H3 u r3 => ?_) fun _ z => z⟩
      split at q3
      · rename_i l
        have h3 := r3.topP.int_inv
        subst h3
        exact ⟨j, l, rfl, rfl, q3 H3 _ (r3.popE.pushP (.bl _))⟩
      · exact q3.elim
    · rename_i hg
      rw [if_neg hg]
      exact q2 H2 _ (r2.popE.popE.pushP (.bl _))
  · exact q2.elim
theorem q_chain {op op' : CmpOp} {g g' : Int → Int → Bool} {pos : Pos} (ho : OpR X (compareOp op) (rI0 fun i j => .bl (g i j))) (ho' : OpR X (compareOp op') (rI0 fun i j => .bl (g' i j))) (ha : QE X B W a f) (hb : QE X B W b h) (hc : QE X B W c k)
    (hm : lastMarks [op, op'] [b, c] = false := by with_unfolding_all rfl) : QE X B W (.Compare a [op, op'] [b, c] pos) (chE g g' f h k) := PE.imp (pe_chain ho ho' ha hb hc hm) fun σ H Q q => ch_ok ha hb hc q
theorem q_tchain {op op' : CmpOp} {g g' : Int → Int → Bool} {pos : Pos} (ho : OpR X (compareOp op) (rI0 fun i j => .bl (g i j))) (ho' : OpR X (compareOp op') (rI0 fun i j => .bl (g' i j))) (ha : QE X B W a f) (hb : QE X B W b h) (hc : QE X B W c k)
    (hm : lastMarks [op, op'] [b, c] = false := by with_unfolding_all rfl) : QT X B W (.Compare a [op, op'] [b, c] pos) (tst (chE g g' f h k)) := PT.imp (pt_chain ho ho' ha hb hc hm) fun σ H Q ⟨β, Γ, stk, svs, r, q⟩ => by
  refine ch_ok ha hb hc ⟨β, Γ, stk, svs, r, Rs.sat_mono (Rs.sat_bind.1 q) (fun Γ1 x q1 H1 v r1 => ?_) fun _ z => z⟩
  split at q1
  · exact ⟨_, r1.topP.bl_inv, q1 H1 r1.popE⟩
  · exact q1.elim
/-! ### a member of any kind -/
theorem RDs.atI {K : PySem.W.Frag} {H : Hp} {F : AP} {xs : List D} {vs : List V} {i : Int} {x : D} (r : RDs K H xs vs F) (h : L2.atI xs i = some x) : ∃ v, L2.atI vs i = some v ∧ RD K H x v F := by
  unfold L2.atI at h ⊢
  rw [← r.length]
  cases q : ixN xs.length i with
  | none => rw [q] at h; cases h
  | some j => rw [q] at h; exact r.get h
theorem Rel.pushST2 {K : PySem.W.Frag} {Γ : G} {stk : List E} {σ : SS} {svs : List V} {H : Hp} {ds : List D} {k : Nat} {d : D} {v0 : V} (r : Rel K β Γ (.s (.tup ds) :: stk) σ (v0 :: svs) H) (hd : ds[k]? = some d) :
    ∃ p vs v, v0 = .ref p ∧ TupT K H p vs ∧ vs.length = ds.length ∧ vs[k]? = some v ∧ Rel K β Γ (ofS d :: .s (.tup ds) :: stk) σ (v :: .ref p :: svs) H := by
  obtain ⟨M, N, T, h1, h2, h3, h4, h5⟩ := r.ex
  cases h2 with
  | cons hh h2 s l1 l2 =>
    cases hh with
    | s hh =>
      cases hh with
      | tup e1 e2 =>
        obtain ⟨v, hv, hr⟩ := e2.get hd
        refine ⟨_, _, v, rfl, e1, e2.length.symm, hv, ⟨M, N, T, h1, ?_, h3, h4, h5⟩, r.prot⟩
        have one : RS K H T (ofS d) v No := by
          cases d with
          | p x => cases hr with | p hr => exact .p hr
          | lst _ => exact .s hr
          | dct _ => exact .s hr
          | tup _ => exact .s hr
          | fz _ => exact .s hr
        exact .cons (m := No) one (.cons (.s (.tup e1 e2)) h2 s l1 l2) Sep.no Le.no Le.rfl
def ixD : G → E → E → Rs E := fun Γ a b => match b with
  | .p (.int i) => (match val Γ a with
    | some (.p (.tup xs)) => (match atI xs i with | some x => .ok Γ (.p x) | none => .bad)
    | some (.fz xs) => (match atI xs i with | some x => .ok Γ (.p x) | none => .bad)
    | some (.lst ds) => (match atI ds i with | some (.p x) => .ok Γ (.p x) | some d => (match a with | .s _ => .ok Γ (.s d) | _ => .bad) | none => .bad)
    | some (.tup ds) => (match atI ds i with | some (.p x) => .ok Γ (.p x) | some d => (match a with | .s _ => .ok Γ (.s d) | _ => .bad) | none => .bad)
    | _ => .bad)
  | _ => .bad
theorem atI_at {α : Type} {xs : List α} {i : Int} {x : α} (h : L2.atI xs i = some x) : ∃ j : Nat, xs[j]? = some x ∧ ∀ {γ : Type} (ys : List γ), ys.length = xs.length → L2.atI ys i = ys[j]? := by
  unfold L2.atI at h
  cases q : ixN xs.length i with
  | none => rw [q] at h; cases h
  | some j =>
    rw [q] at h
    refine ⟨j, h, fun ys hl => ?_⟩
    unfold L2.atI
    rw [hl, q]
    rfl
theorem q_ixD {pos} (ha : QE X B W a f) (hb : QE X B W b h) (hs : PlainIx b) : QE X B W (.Subscript a b pos) (e2 ixD f h) :=
  q_2 ha hb (fun t u x y => pe_ix ix_seq x y hs) fun β Γ stk σ svs H a b x y Q r q => by
    unfold ixD at q
    split at q
    · rename_i i
      have h1 := r.topP.int_inv
      subst h1
      split at q
      · rename_i xs hv
        split at q
        · rename_i z hz
          obtain ⟨F, w⟩ := r.popE.val hv
          cases w with
          | p w =>
            cases w with
            | tup t w =>
              obtain ⟨v, e1, e2⟩ := w.atI hz
              exact .inr (.inl ⟨_, _, i, v, rfl, rfl, t.sq, e1, q H v (r.popE.popE.pushP e2)⟩)
        · exact q.elim
      · rename_i xs hv
        split at q
        · rename_i z hz
          obtain ⟨F, w⟩ := r.popE.val hv
          cases w with
          | fz t w =>
            obtain ⟨v, e1, e2⟩ := w.atI hz
            exact .inl ⟨_, _, i, v, rfl, rfl, t.sq, e1, q H v (r.popE.popE.pushP e2)⟩
        · exact q.elim
      · rename_i ds hv
        obtain ⟨F, w⟩ := r.popE.val hv
        cases w with
        | lst w1 w2 w3 w4 w5 =>
          split at q
          · rename_i z hz
            obtain ⟨v, e1, e2⟩ := w2.atI hz
            cases e2 with
            | p e2 => exact .inl ⟨_, _, i, v, rfl, rfl, SqL.of w1, e1, q H v (r.popE.popE.pushP e2)⟩
          · rename_i d hnp hz
            split at q
            · rename_i d0
              cases hv
              obtain ⟨j, j1, j2⟩ := atI_at hz
              obtain ⟨vs, v, e1, e2, r2⟩ := r.popE.pushS j1
              rw [w1] at e1; cases e1
              have e3 : ofS d = .s d := by
                cases d with
                | p x => exact absurd rfl (hnp x)
                | _ => rfl
              rw [e3] at r2
              exact .inl ⟨_, _, i, v, rfl, rfl, SqL.of w1, (j2 _ w2.length.symm).trans e2, q H v r2.drop2⟩
            · exact q.elim
          · exact q.elim
      · rename_i ds hv
        obtain ⟨F, w⟩ := r.popE.val hv
        cases w with
        | tup w1 w2 =>
          split at q
          · rename_i z hz
            obtain ⟨v, e1, e2⟩ := w2.atI hz
            cases e2 with
            | p e2 => exact .inr (.inl ⟨_, _, i, v, rfl, rfl, w1.sq, e1, q H v (r.popE.popE.pushP e2)⟩)
          · rename_i d hnp hz
            split at q
            · rename_i d0
              cases hv
              obtain ⟨j, j1, j2⟩ := atI_at hz
              obtain ⟨p', vs, v, e0, e1, hl, e2, r2⟩ := r.popE.pushST2 j1
              cases e0
              have e3 : ofS d = .s d := by
                cases d with
                | p x => exact absurd rfl (hnp x)
                | _ => rfl
              rw [e3] at r2
              exact .inr (.inl ⟨_, _, i, v, rfl, rfl, e1.sq, (j2 _ hl).trans e2, q H v r2.drop2⟩)
            · exact q.elim
          · exact q.elim
      · exact q.elim
    · exact q.elim

/-! ### a list in a slot's own dict -/
def dset : List (Key × D) → Key → D → List (Key × D)
  | [], _, _ => []
  | (k0, d0) :: r, k, d => if k0 = k then (k0, d) :: r else (k0, d0) :: dset r k d
theorem dset_len : ∀ {kvs : List (Key × D)} {k : Key} {d : D}, (dset kvs k d).length = kvs.length
  | [], _, _ => rfl
  | (k0, d0) :: r, k, d => by
    unfold dset
    split
    · rfl
    · simp [dset_len]
theorem RDk.inner {K : PySem.W.Frag} {H : Hp} {k : Key} {ds : List D} : ∀ {kvs : List (Key × D)} {ps : List (Key × V)} {G : AP}, RDk K H kvs ps G → dget kvs k = some (.lst ds) →
    ∃ p vs, valV ps k = some (.ref p) ∧ G p ∧ H p = some (.lst vs) ∧ vs.length = ds.length ∧ (∃ G', RDs K H ds vs G') ∧
      ∀ vs' ds', (∀ G', ¬ G' p → RDs K H ds vs G' → RDs K (upd H p (.lst vs')) ds' vs' G') → RDk K (upd H p (.lst vs')) (dset kvs k (.lst ds')) ps G
  | [], _, _, .nil, h => by cases h
  | (k0, d0) :: kvs, _, _, .cons (v := v) (vs := vs) (F := F) (G := G1) hd r s a b, h => by
    by_cases hk : k0 = k
    · subst hk
      have e1 : dget ((k0, d0) :: kvs) k0 = some d0 := by simp [dget, List.find?_cons]
      rw [e1] at h; cases h
      cases hd with
      | lst w1 w2 w3 w4 w5 =>
        rename_i us p G'
        refine ⟨p, us, valV_pos rfl, a _ w4, w1, w2.length.symm, ⟨_, w2⟩, fun vs' ds' hh => ?_⟩
        have e2 : dset ((k0, .lst ds) :: kvs) k0 (.lst ds') = (k0, .lst ds') :: kvs := by simp [dset]
        rw [e2]
        exact .cons (.lst upd_same (hh _ w5 w2) w3 w4 w5) (r.kp (kp_upd (.inl ⟨_, w1⟩) fun z => s p w4 z)) s a b
    · have e1 : dget ((k0, d0) :: kvs) k = dget kvs k := by simp [dget, List.find?_cons, hk]
      rw [e1] at h
      obtain ⟨p, us, h1, h2, h3, h4, h5, h6⟩ := RDk.inner r h
      refine ⟨p, us, (valV_neg hk).trans h1, b _ h2, h3, h4, h5, fun vs' ds' hh => ?_⟩
      have e2 : dset ((k0, d0) :: kvs) k (.lst ds') = (k0, d0) :: dset kvs k (.lst ds') := by simp [dset, hk]
      rw [e2]
      exact .cons (hd.kp (kp_upd (.inl ⟨_, h3⟩) fun z => s p z h2)) (h6 vs' ds' hh) s a b
/-- d[k].pop(), a number -/
def popPE (i : Nat) (k : Key) : X1 := fun Γ => match Γ[i]? with
  | some (some (.o (.dct kvs))) => (match dget kvs k with
    | some (.lst ds) => (match ds[ds.length - 1]? with
      | some (.p x) => .ok (Γ.set i (some (.o (.dct (dset kvs k (.lst (ds.eraseIdx (ds.length - 1)))))))) (.p x)
      | _ => .bad)
    | _ => .bad)
  | _ => .bad
theorem q_popP {i : Nat} {key : Expr} {sk : Str} {p1 p2 apos cpos : Pos} {j : Nat} (hu : X.A.units + 1 < cLine) (ho : PE X o (tVar i)) (hs : NoSl (.Constant (.str sk) j p1)) (pa : PlainAttrs "list") (slot : Slot "list" "pop" "list.pop") (hty : typeOf (.builtin "list.pop") = pure (.type "method_descriptor"))
    (hbase : attributeBase (.Subscript o (.Constant (.str sk) j p1) p2) "pop" X.env (eval (.Subscript o (.Constant (.str sk) j p1) p2) X.env) = eval (.Subscript o (.Constant (.str sk) j p1) p2) X.env := by rfl) (hline : (apos.endLine == cpos.line) = true := by rfl) :
    QE X B W (.Call (.Attribute (.Subscript o (.Constant (.str sk) j p1) p2) "pop" apos) [] [] cpos) (popPE i (.inr sk)) :=
  PE.imp (pe_bm0 (r := rPop) pa slot hty mt_pop (pe_dget hu ho pe_str hs) hbase hline) fun σ H Q ⟨β, Γ, stk, svs, r, q⟩ => by
    unfold popPE at q
    split at q
    · rename_i kvs hi
      split at q
      · rename_i ds hk
        split at q
        · rename_i x hx
          obtain ⟨v, e1, r1⟩ := r.readO hi
          obtain ⟨m, M1, T, m1, m2, s, put⟩ := Rel.mutate (es := []) (vs := []) r1 rfl hi
          cases m1 with
          | dct w1 w2 w3 w4 w5 =>
            rename_i ps a G'
            obtain ⟨p, us, h1, h2, h3, h4, ⟨G2, h5⟩, h6⟩ := w2.inner hk
            have hne : p ≠ a := fun z => w5 (z ▸ h2)
            obtain ⟨y, hy, hr⟩ := h5.get hx
            cases hr with
            | p hr =>
              refine ⟨_, e1, a, .ref p, rfl, (by rw [← h1]; exact DGet.k (k := (.inr sk : Key)) w1), .inl ⟨rfl, us, SqL.of h3⟩, p, us, y, rfl, rfl, h3, (by rw [h4]; exact hy), q _ y ?_⟩
              have nR := put p (.lst us.dropLast) (.dct (dset kvs (.inr sk) (.lst (ds.eraseIdx (ds.length - 1))))) m [] [] No (w3 _ h2) (.inl ⟨_, rfl⟩) ?_ .nil Sep.nor Le.inl Le.no
              · exact nR.pushP (hr.kp (kp_upd (F := No) (.inl ⟨_, h3⟩) id))
              refine .dct (G := G') (by rw [upd_ne hne.symm]; exact w1) (h6 _ _ fun G3 n3 w => ?_) w3 w4 w5
              obtain ⟨v', F1, F2, k1, k2, k3, k4, k5, k6⟩ := w.out hx
              rw [← erase_last, h4]
              exact (k3.kp (kp_upd (.inl ⟨_, h3⟩) fun z => n3 (k6 _ z))).mono k6
        · exact q.elim
      · exact q.elim
    · exact q.elim
/-- len(d[k]) -/
def lenPE (i : Nat) (k : Key) : X1 := fun Γ => match Γ[i]? with
  | some (some (.o (.dct kvs))) => (match dget kvs k with
    | some (.lst ds) => .ok Γ (.p (.int ds.length))
    | _ => .bad)
  | _ => .bad
theorem q_lenP {i : Nat} {sk : Str} {p0 p1 p2 pos : Pos} {j : Nat} (hu : X.A.units + 1 < cLine) (hg : Gl X "len") (hm : X.mg "len" = none) (ho : PE X o (tVar i)) (hs : NoSl (.Constant (.str sk) j p1))
    (he : starEach [.Subscript o (.Constant (.str sk) j p1) p2] X.env = (false, eval (.Subscript o (.Constant (.str sk) j p1) p2) X.env) :: starEach [] X.env := by rfl) :
    QE X B W (.Call (.Name "len" p0) [.Subscript o (.Constant (.str sk) j p1) p2] [] pos) (lenPE i (.inr sk)) :=
  PE.imp (pe_callB call_len hg hm (by decide +kernel) (pa_cons (pe_dget hu ho pe_str hs) pa_nil he) (he := he)) fun σ H Q ⟨β, Γ, stk, svs, r, q⟩ => by
    unfold lenPE at q
    split at q
    · rename_i kvs hi
      split at q
      · rename_i ds hk
        obtain ⟨v, e1, r1⟩ := r.readO hi
        obtain ⟨F, w⟩ := r1.val (d := .dct kvs) (by unfold Kv.val; dsimp only; rw [hi])
        cases w with
        | dct w1 w2 w3 w4 w5 =>
          obtain ⟨p, us, h1, h2, h3, h4, _, _⟩ := w2.inner hk
          refine ⟨_, e1, _, .ref p, rfl, (by rw [← h1]; exact DGet.k (k := (.inr sk : Key)) w1), .ref p, us.length, rfl, .inl ⟨us, SqL.of h3, rfl⟩, ?_⟩
          rw [h4]
          exact q H _ (r.pushP (.int _))
      · exact q.elim
    · exact q.elim
end
end Kv

set_option Elab.async false
set_option linter.all false
set_option maxRecDepth 100000
set_option maxHeartbeats 2000000
set_option autoImplicit false
/-! Kv, part M: the rules in short, for printed terms. -/
namespace Kv
open PySem PySem.Spec L2
variable [Tbl]
theorem wpAny_isTrue_of_eval {M : Model} {A : Around} {env : Env} {E : Value → Shared → Prop} {s : Shared} {l r : Expr} {op : CmpOp} {pos : Pos} {Q : Bool → Shared → Prop} (h : wpAny M A (eval (.Compare l [op] [r] pos) env) (fun c s₃ => wpAny M A (truthy c) Q E s₃) E s)
    (hm : behindInMarks op r = false) : wpAny M A (isTrue (.Compare l [op] [r] pos) env (eval (.Compare l [op] [r] pos) env)) Q E s := fun Γ p hΓ => by
  have h := h Γ p hΓ
  simp only [eval_Compare1, markedBehindIn_of_false hm, Sem.wp_bind', Sem.wp_holding, Sem.wp_cmd_standAt, Sem.wp_operate] at h
  simp only [isTrue_Compare1, markedBehindIn_of_false hm, Sem.wp_bind', Sem.wp_holding, Sem.wp_cmd_standAt, Sem.wp_operate]
  exact Sem.wp_mono M Γ _ (fun a p₁ s₁ h₁ => Sem.wp_mono M Γ _ (fun b _ s₂ h₂ => Sem.wp_mono M Γ _ (fun c p₃ s₃ h₃ => h₃ Γ p₃ hΓ) (fun _ _ _ h' => h') _ _ h₂) (fun _ _ _ h' => h') _ _ h₁) (fun _ _ _ h' => h') _ _ h
theorem pt_of_cmp {X : Cx} {a b : Expr} {op : CmpOp} {pos : Pos} {t : TE} (h : PE X (.Compare a [op] [b] pos) t) (hm : behindInMarks op b = false) : PT X (.Compare a [op] [b] pos) (tB t) := by
  refine ⟨fun pins s σ H Q I q => ?_⟩
  refine wpAny_isTrue_of_eval (thn (h.run pins s σ H _ I q) fun v s1 ⟨x, H1, I1, r1, k, e, q1⟩ => ?_) hm
  subst e
  cases r1
  exact wpAny_truthy_bool ⟨H1, I1, q1⟩
section
variable {X : Cx} {B : List Nat} {β : Base} {W : XK} {e a b c ee o : Expr} {es : List Expr} {f h k : X1} {p pos apos : Pos}
theorem m_len (hm : X.mg "len" = none) (ha : QE X B W a f) (hg : Gl X "len" := by rfl) (hs : starEach [a] X.env = (false, eval a X.env) :: starEach [] X.env := by rfl) : QE X B W (.Call (.Name "len" p) [a] [] pos) (e1 lenE f) :=
  q_b1 ha (fun t u => pe_callB call_len_seq hg hm (by decide +kernel) u (he := hs)) ok_len hs
theorem m_lenS (hm : X.mg "len" = none) (ha : QE X B W a f) (hg : Gl X "len" := by rfl) (hs : starEach [a] X.env = (false, eval a X.env) :: starEach [] X.env := by rfl) : QE X B W (.Call (.Name "len" p) [a] [] pos) (e1 lenS f) :=
  q_b1 ha (fun t u => pe_callB call_len_str hg hm (by decide +kernel) u (he := hs)) ok_lenS hs
theorem m_abs (hm : X.mg "abs" = none) (ha : QE X B W a f) (hg : Gl X "abs" := by rfl) (hs : starEach [a] X.env = (false, eval a X.env) :: starEach [] X.env := by rfl) : QE X B W (.Call (.Name "abs" p) [a] [] pos) (e1 absO f) :=
  q_b1 ha (fun t u => pe_callB call_abs hg hm (by decide +kernel) u (he := hs)) ok_abs hs
theorem m_all (hc : X.calm = true) (hm : X.mg "all" = none) (ha : QE X B W a f) (hg : Gl X "all" := by rfl) (hs : starEach [a] X.env = (false, eval a X.env) :: starEach [] X.env := by rfl) : QE X B W (.Call (.Name "all" p) [a] [] pos) (e1 allO f) :=
  q_b1 ha (fun t u => pe_callB (cr_all hc) hg hm (by decide +kernel) u (he := hs)) ok_all hs
theorem m_repr (hgd : X.A.guards = some []) (hu : X.A.units + 64 < cLine) (hm : X.mg "repr" = none) (ha : QE X B W a f) (hg : Gl X "repr" := by rfl) (hs : starEach [a] X.env = (false, eval a X.env) :: starEach [] X.env := by rfl) : QE X B W (.Call (.Name "repr" p) [a] [] pos) (e1 repO f) :=
  q_b1 ha (fun t u => pe_callB (call_repr hgd hu) hg hm (by decide +kernel) u (he := hs)) ok_rep hs
theorem m_max (hc : X.calm = true) (hm : X.mg "max" = none) (ha : QE X B W a f) (hb : QE X B W b h) (hg : Gl X "max" := by rfl) (hs : starEach [a, b] X.env = (false, eval a X.env) :: starEach [b] X.env := by rfl) (hs2 : starEach [b] X.env = (false, eval b X.env) :: starEach [] X.env := by rfl)
    (hpl : (backTo pos (starEach [b] X.env)).any (·.1) = false := by rfl) : QE X B W (.Call (.Name "max" p) [a, b] [] pos) (e2 maxO f h) :=
  q_b2 ha hb (fun t u => pe_callB (call_max2 hc) hg hm (by decide +kernel) u (he := hs) (hpl := hpl)) ok_max hs hs2
theorem m_tuple (hm : X.mg "tuple" = none) (ha : QE X B W a f) (hg : Gl X "tuple" := by rfl) (hs : starEach [a] X.env = (false, eval a X.env) :: starEach [] X.env := by rfl) : QE X B W (.Call (.Name "tuple" p) [a] [] pos) (e1 tupO f) :=
  q_b1 ha (fun t u => pe_callTy call_tupF hg hm (by decide +kernel) u (he := hs)) ok_tup hs
theorem m_list (hm : X.mg "list" = none) (ha : QE X B W a f) (hg : Gl X "list" := by rfl) (hs : starEach [a] X.env = (false, eval a X.env) :: starEach [] X.env := by rfl) : QE X B W (.Call (.Name "list" p) [a] [] pos) (e1 lstO f) :=
  q_b1 ha (fun t u => pe_callTy call_list_of hg hm (by decide +kernel) u (he := hs)) ok_lst hs
theorem m_int (hm : X.mg "int" = none) (ha : QE X B W a f) (hg : Gl X "int" := by rfl) (hs : starEach [a] X.env = (false, eval a X.env) :: starEach [] X.env := by rfl) : QE X B W (.Call (.Name "int" p) [a] [] pos) (e1 intO f) :=
  q_b1 ha (fun t u => pe_callTy call_int1 hg hm (by decide +kernel) u (he := hs)) ok_int hs
theorem m_str (hm : X.mg "str" = none) (ha : QE X B W a f) (hg : Gl X "str" := by rfl) (hs : starEach [a] X.env = (false, eval a X.env) :: starEach [] X.env := by rfl) : QE X B W (.Call (.Name "str" p) [a] [] pos) (e1 strO f) :=
  q_b1 ha (fun t u => pe_callTy call_str_int hg hm (by decide +kernel) u (he := hs)) ok_str hs
theorem m_isi {T : String} {p2 : Pos} (hm : X.mg "isinstance" = none) (hmT : X.mg T = none) (hvT : bootBuiltins T = some (.type T)) (ha : QE X B W a f) (hg : Gl X "isinstance" := by rfl) (hgT : Gl X T := by rfl)
    (hnT : (T : Str) ≠ "__name__" := by decide) (hdT : ((T : Str) == ("__debug__" : Str)) = false := by decide)
    (hs : starEach [a, .Name T p2] X.env = (false, eval a X.env) :: starEach [.Name T p2] X.env := by rfl) (hpl : (backTo pos (starEach [.Name T p2] X.env)).any (·.1) = false := by rfl) :
    QE X B W (.Call (.Name "isinstance" p) [a, .Name T p2] [] pos) (e1 (isiO T) f) := q_isi (x := T) hg hm hgT hmT hvT ha hnT hdT hs hpl
theorem m_app {cpos : Pos} (ho : QE X B W o f) (ha : QE X B W a h) (hbase : attributeBase o "append" X.env (eval o X.env) = eval o X.env := by rfl)
    (hfew : ((backTo cpos (starEach [a] X.env)).all (fun x => !x.1) && (backToKw cpos (keywordEach [] X.env)).all (fun x => x.1.isSome) && decide ([a].length + ([] : List Keyword).length + (if ([] : List Keyword).isEmpty then 0 else 1) < 30)) = true := by rfl)
    (hline : (apos.endLine == cpos.line) = true := by rfl) (hs : starEach [a] X.env = (false, eval a X.env) :: starEach [] X.env := by rfl) : QE X B W (.Call (.Attribute o "append" apos) [a] [] cpos) (e2r isL appO f (own h)) :=
  q_m1 ho (q_own ha) (fun t u x y => pe_bm PySem.F.plainAttrs_list PySem.F.slot_list_append PySem.F.type_list_append mt_append x y hbase hfew hline hs) ok_app hs
theorem m_pop {cpos : Pos} (ho : QE X B W o f) (hbase : attributeBase o "pop" X.env (eval o X.env) = eval o X.env := by rfl)
    (hline : (apos.endLine == cpos.line) = true := by rfl) : QE X B W (.Call (.Attribute o "pop" apos) [] [] cpos) (e1r isL popO f) :=
  q_m0 ho (fun t x => pe_bm0 PySem.F.plainAttrs_list PySem.F.slot_list_pop PySem.F.type_list_pop mt_pop x hbase hline) ok_pop
theorem m_popA {cpos : Pos} (ho : QE X B W o f) (ha : QE X B W a h) (hbase : attributeBase o "pop" X.env (eval o X.env) = eval o X.env := by rfl)
    (hfew : ((backTo cpos (starEach [a] X.env)).all (fun x => !x.1) && (backToKw cpos (keywordEach [] X.env)).all (fun x => x.1.isSome) && decide ([a].length + ([] : List Keyword).length + (if ([] : List Keyword).isEmpty then 0 else 1) < 30)) = true := by rfl)
    (hline : (apos.endLine == cpos.line) = true := by rfl) (hs : starEach [a] X.env = (false, eval a X.env) :: starEach [] X.env := by rfl) : QE X B W (.Call (.Attribute o "pop" apos) [a] [] cpos) (e2r isL popA f h) :=
  q_m1 ho ha (fun t u x y => pe_bm PySem.F.plainAttrs_list PySem.F.slot_list_pop PySem.F.type_list_pop mt_popAt x y hbase hfew hline hs) ok_popA hs
theorem m_ixL {cpos : Pos} (ho : QE X B W o f) (ha : QE X B W a h) (hbase : attributeBase o "index" X.env (eval o X.env) = eval o X.env := by rfl)
    (hfew : ((backTo cpos (starEach [a] X.env)).all (fun x => !x.1) && (backToKw cpos (keywordEach [] X.env)).all (fun x => x.1.isSome) && decide ([a].length + ([] : List Keyword).length + (if ([] : List Keyword).isEmpty then 0 else 1) < 30)) = true := by rfl)
    (hline : (apos.endLine == cpos.line) = true := by rfl) (hs : starEach [a] X.env = (false, eval a X.env) :: starEach [] X.env := by rfl) : QE X B W (.Call (.Attribute o "index" apos) [a] [] cpos) (e2r isL (ixO lseq) f h) :=
  q_m1 ho ha (fun t u x y => pe_bm PySem.F.plainAttrs_list PySem.F.slot_list_index PySem.F.type_list_index mt_index x y hbase hfew hline hs) ok_ixL hs
theorem m_ixT {cpos : Pos} (ho : QE X B W o f) (ha : QE X B W a h) (hbase : attributeBase o "index" X.env (eval o X.env) = eval o X.env := by rfl)
    (hfew : ((backTo cpos (starEach [a] X.env)).all (fun x => !x.1) && (backToKw cpos (keywordEach [] X.env)).all (fun x => x.1.isSome) && decide ([a].length + ([] : List Keyword).length + (if ([] : List Keyword).isEmpty then 0 else 1) < 30)) = true := by rfl)
    (hline : (apos.endLine == cpos.line) = true := by rfl) (hs : starEach [a] X.env = (false, eval a X.env) :: starEach [] X.env := by rfl) : QE X B W (.Call (.Attribute o "index" apos) [a] [] cpos) (e2r isT (ixO tseq) f h) :=
  q_ixT ho ha (fun t u x y => pe_bmT PySem.F.plainAttrs_tuple PySem.F.slot_tuple_index PySem.F.type_tuple_index mt_ixTu x y hbase hfew hline hs) hs
theorem m_popP {i : Nat} {sk : Str} {p1 p2 cpos : Pos} {j : Nat} (hu : X.A.units + 1 < cLine) (ho : PE X o (tVar i)) (hs : NoSl (.Constant (.str sk) j p1) := by intro _ _; rfl)
    (hbase : attributeBase (.Subscript o (.Constant (.str sk) j p1) p2) "pop" X.env (eval (.Subscript o (.Constant (.str sk) j p1) p2) X.env) = eval (.Subscript o (.Constant (.str sk) j p1) p2) X.env := by rfl) (hline : (apos.endLine == cpos.line) = true := by rfl) :
    QE X B W (.Call (.Attribute (.Subscript o (.Constant (.str sk) j p1) p2) "pop" apos) [] [] cpos) (popPE i (.inr sk)) :=
  q_popP (key := o) hu ho hs PySem.F.plainAttrs_list PySem.F.slot_list_pop PySem.F.type_list_pop hbase hline
theorem m_lenP {i : Nat} {sk : Str} {p0 p1 p2 : Pos} {j : Nat} (hm : X.mg "len" = none) (hu : X.A.units + 1 < cLine) (ho : PE X o (tVar i)) (hg : Gl X "len" := by rfl) (hs : NoSl (.Constant (.str sk) j p1) := by intro _ _; rfl)
    (he : starEach [.Subscript o (.Constant (.str sk) j p1) p2] X.env = (false, eval (.Subscript o (.Constant (.str sk) j p1) p2) X.env) :: starEach [] X.env := by rfl) :
    QE X B W (.Call (.Name "len" p0) [.Subscript o (.Constant (.str sk) j p1) p2] [] pos) (lenPE i (.inr sk)) := q_lenP hu hg hm ho hs he
theorem m_ix (ha : QE X B W a f) (hb : QE X B W b h) (hs : PlainIx b := by intro _ _; rfl) : QE X B W (.Subscript a b pos) (e2 ixD f h) := q_ixD ha hb hs
theorem m_dget (hu : X.A.units + 1 < cLine) (ha : QE X B W a f) (hb : QE X B W b h) (hs : NoSl b := by intro _ _; rfl) : QE X B W (.Subscript a b pos) (e2 dgetE f h) := q_dget hu ha hb hs
theorem m_tcmp {op : CmpOp} (h : QE X B W (.Compare a [op] [b] pos) f) (hm : behindInMarks op b = false := by first | exact nomark _ (by decide) (by decide) | rfl) : QT X B W (.Compare a [op] [b] pos) (tst f) := q_tcmp h fun t x => pt_of_cmp x hm
theorem m_tw {fb : XB} (h : QW X B W e fb) : QT X B W e fb := h.pt
end
end Kv

set_option Elab.async false
set_option linter.all false
set_option maxRecDepth 100000
set_option maxHeartbeats 2000000
set_option autoImplicit false
/-! Kv, part N: raise; two names at once; list(range), dict(pairs), list(dict). -/
namespace Kv
open PySem PySem.Spec L2
variable [Tbl]
/-- an own error class without __init__ -/
structure XCls (K : PySem.W.Frag) (mg : Str → Option Value) (n : Str) : Type where
  C : Addr
  bmB : List Value
  Bs : String
  newId : String
  initId : String
  F : ExcBaseFacts Bs newId initId bmB
  q : PySem.W.excIn K C bmB newId = true
  gC : mg n = some (.ref C)
  kC : PySem.W.keepIn K (.ref C) = true
  s1 : PySem.W.subIn K (.ref C) (.type "BaseException") = some true
  s2 : PySem.W.typeIn K (.ref C) = some (.type "type")
section
variable {X : Cx} {B : List Nat} {β : Base} {W : XK} {e a b c ee o : Expr} {es : List Expr} {f h k : X1} {p pos apos : Pos}
theorem pmk_own0 {x : Str} (T : XCls X.K X.mg x) (hg : Gl X x) (hdb : (x == ("__debug__" : Str)) = false := by decide) : PMk X (.Call (.Name x p) [] [] pos) (fun _ H Q => Q (.ref T.C) none H) := by
  intro pins s σ H Q I h
  refine wpAny_Call_Name_kw (ld_glob I hg T.gC ?_ hdb)
  refine PySem.W.callWith_K0 (first := []) I.kIn T.kC ?_
  show wpAny _ _ (call (.ref T.C) []) _ _ _
  obtain ⟨bm, N, nm, qn, bs, hdct, sn, sub, ab, col, dd, k0, k1, k2, k3, k5, mN, hC, hN, hni, OT⟩ := exc_obj I.kIn T.q
  refine wpAny_call_exc_subT T.F OT hC hN hni (fun h' e hm => ?_) (by show 0 ≤ sizeLine; exact Nat.zero_le _)
  exact mk_of I hm (raises_own T.s1 T.s2) h (I.hok.gone hm.new)
def raiseS (n : Str) : X3 := fun _ => .ex ⟨n, []⟩
theorem s_raise0 {x : Str} {p1 p2 p3 : Pos} (hc : X.calm = true) (tk : Takes X (fun cls d _ H => W cls d H)) (T : XCls X.K X.mg x) (hg : Gl X x := by rfl) (hdb : (x == ("__debug__" : Str)) = false := by decide) :
    QS X B W (.Raise (some (.Call (.Name x p1) [] [] p2)) none p3) (raiseS x) := PS.imp (ps_raise hc tk (pmk_own0 T hg hdb)) fun D σ H ⟨β, Γ, stk, svs, hβ, r, n, q⟩ => by
  obtain ⟨M, N, T', h1, h2, h3, h4, h5⟩ := r.ex
  exact q (.ref T.C) none H ⟨T.gC, trivial⟩ ⟨h5.keep, h5.old, h5.tabs⟩
/-- x, y = a, b -/
def parS (i j : Nat) (f h : X1) : X3 := fun Γ => (own f Γ).out fun Γ1 a => (own h Γ1).out fun Γ2 b => .nx ((Γ2.set j (some b)).set i (some a))
theorem s_par {i j : Nat} {x y : Str} {px py pt : Pos} {kt k2 : Nat} {pt2 : Pos} (hc : X.calm = true) (hN : X.N.Nodup) (hi : X.N[i]? = some x) (hj : X.N[j]? = some y) (ha : QE X B W a f) (hb : QE X B W b h) (hij : i ≠ j := by decide)
    (hx : X.env.scope.names.lookup x = some .local := by rfl) (hy : X.env.scope.names.lookup y = some .local := by rfl)
    (hw : swappedStores [.Tuple [.Name x px, .Name y py] kt pt] (.Tuple [a, b] k2 pt2) X.env = pure (some [x, y]) := by rfl)
    (hs : swapsWithSole [.Tuple [.Name x px, .Name y py] kt pt] (.Tuple [a, b] k2 pt2) pos.line X.env = pure false := by rfl) (hpi : i ∉ B := by decide) (hpj : j ∉ B := by decide)
    (hs1 : starEach [a, b] X.env = (false, eval a X.env) :: starEach [b] X.env := by rfl) (hs2 : starEach [b] X.env = (false, eval b X.env) :: starEach [] X.env := by rfl) :
    QS X B W (.Assign [.Tuple [.Name x px, .Name y py] kt pt] (.Tuple [a, b] k2 pt2) pos) (parS i j f h) :=
  PS.imp (ps_par hc hN hi hj hij hx hy (pa_cons (q_own ha) (pa_cons (q_own hb) pa_nil hs2) hs1) hw hs) fun D σ H ⟨β, Γ, stk, svs, hβ, r, n, q⟩ => by
    have q := Rs.sat_out.1 q
    cases hf : own f Γ with
    | bad => rw [hf] at q; exact q.elim
    | ex z => exact ⟨β, Γ, stk, svs, r, by rw [hf] at q ⊢; exact q⟩
    | ok Γ1 e1 =>
      refine ⟨β, Γ, stk, svs, r, ?_⟩
      rw [hf] at q ⊢
      intro H1 v r1
      have q := Rs.sat_out.1 q
      cases hh : own h Γ1 with
      | bad => rw [hh] at q; exact q.elim
      | ex z => exact ⟨β, Γ1, _, _, r1, by rw [hh] at q ⊢; exact q⟩
      | ok Γ2 e2 =>
        refine ⟨β, Γ1, _, _, r1, ?_⟩
        rw [hh] at q ⊢
        intro H2 w r2
        refine ⟨v, w, rfl, ?_⟩
        have r3 := r2.store (i := j) (own_nb hh) (fun m z => by
          rcases List.mem_cons.mp z with z | z
          · exact own_nb hf m z.symm
          · exact n m z) fun q hq e => hpj (e ▸ hβ q hq)
        have r4 := r3.store (i := i) (own_nb hf) (fun m z => n m z) fun q hq e => hpi (e ▸ hβ q hq)
        have sc : (σ.set j (some w)).set i (some v) = (σ.set i (some v)).set j (some w) := List.set_comm _ _ (Ne.symm hij)
        rw [sc] at r4
        exact q _ _ r4
/-- list(range(a, b)) -/
def rgD (a b : Int) : List D := (List.range (b - a).toNat).map fun k : Nat => .p (.int (a + (k : Int)))
theorem rg_rps {K : PySem.W.Frag} {H : Hp} (a b : Int) : RPs K H ((List.range (b - a).toNat).map fun k : Nat => P.int (a + (k : Int))) (rgV a b) := by
  unfold rgV
  induction (List.range (b - a).toNat) with
  | nil => exact .nil
  | cons x xs ih => exact .cons (.int _) ih
def RgS (a b : Int) : Prop := (a < 1000000 ∧ -1000000 < a) ∧ (b < 1000000 ∧ -1000000 < b)
instance (a b : Int) : Decidable (RgS a b) := by unfold RgS; infer_instance
theorem RgS.ok {a b : Int} (h : RgS a b) : RgOk a b := by
  obtain ⟨⟨h1, h2⟩, h3, h4⟩ := h
  exact ⟨by omega, by omega, by omega, by omega, by omega⟩
def lrE1 (f : X1) : X1 := fun Γ => (f Γ).bind fun Γ1 b => match b with
  | .p (.int j) => if RgS 0 j then .ok Γ1 (.o (.lst (rgD 0 j))) else .bad
  | _ => .bad
def lrE2 (f h : X1) : X1 := fun Γ => (f Γ).bind fun Γ1 a => (h Γ1).bind fun Γ2 b => match a, b with
  | .p (.int i), .p (.int j) => if RgS i j then .ok Γ2 (.o (.lst (rgD i j))) else .bad
  | _, _ => .bad
theorem m_lrng1 {p2 pos2 : Pos} (hc : X.calm = true) (hm : X.mg "list" = none) (hmr : X.mg "range" = none) (ha : QE X B W a f) (hg : Gl X "list" := by rfl) (hgr : Gl X "range" := by rfl) (na : starEach [a] X.env = (false, eval a X.env) :: starEach [] X.env := by rfl)
    (na2 : starEach [.Call (.Name "range" p2) [a] [] pos2] X.env = (false, eval (.Call (.Name "range" p2) [a] [] pos2) X.env) :: starEach [] X.env := by rfl) : QE X B W (.Call (.Name "list" p) [.Call (.Name "range" p2) [a] [] pos2] [] pos) (lrE1 f) :=
  PE.imp (pe_listRg hc hg hm (prg_1 hgr hmr ha na) na2) fun σ H Q ⟨β, Γ, stk, svs, r, q⟩ => by
    refine ⟨β, Γ, stk, svs, r, Rs.sat_mono (Rs.sat_bind.1 q) (fun Γ1 x q1 H1 v r1 => ?_) fun _ z => z⟩
    split at q1
    · split at q1
      · rename_i j hj
        have h1 := r1.topP.int_inv
        subst h1
        refine ⟨_, rfl, hj.ok, fun l hl => q1 _ _ ?_⟩
        have := r1.popE.newLstP hl (rg_rps (K := X.K) (H := H1) 0 j)
        rw [List.map_map] at this
        exact this
      · exact q1.elim
    · exact q1.elim
theorem m_lrng2 {p2 pos2 : Pos} (hc : X.calm = true) (hm : X.mg "list" = none) (hmr : X.mg "range" = none) (ha : QE X B W a f) (hb : QE X B W b h) (hg : Gl X "list" := by rfl) (hgr : Gl X "range" := by rfl) (na : starEach [a, b] X.env = (false, eval a X.env) :: starEach [b] X.env := by rfl)
    (nb : starEach [b] X.env = (false, eval b X.env) :: starEach [] X.env := by rfl) (hp : (backTo pos2 (starEach [b] X.env)).any (·.1) = false := by rfl)
    (na2 : starEach [.Call (.Name "range" p2) [a, b] [] pos2] X.env = (false, eval (.Call (.Name "range" p2) [a, b] [] pos2) X.env) :: starEach [] X.env := by rfl) : QE X B W (.Call (.Name "list" p) [.Call (.Name "range" p2) [a, b] [] pos2] [] pos) (lrE2 f h) :=
  PE.imp (pe_listRg hc hg hm (prg_2 hgr hmr ha hb na nb hp) na2) fun σ H Q ⟨β, Γ, stk, svs, r, q⟩ => by
    refine ⟨β, Γ, stk, svs, r, Rs.sat_mono (Rs.sat_bind.1 q) (fun Γ1 x q1 H1 v r1 => ?_) fun _ z => z⟩
    refine ⟨β, Γ1, _, _, r1, Rs.sat_mono (Rs.sat_bind.1 q1) (fun Γ2 y q2 H2 w r2 => ?_) fun _ z => z⟩
    split at q2
    · split at q2
      · rename_i i j hj
        have h1 := r2.topP.int_inv
        have h2 := r2.popE.topP.int_inv
        subst h1 h2
        refine ⟨_, _, rfl, rfl, hj.ok, fun l hl => q2 _ _ ?_⟩
        have := r2.popE.popE.newLstP hl (rg_rps (K := X.K) (H := H2) i j)
        rw [List.map_map] at this
        exact this
      · exact q2.elim
    · exact q2.elim

/-! ### dict(list of pairs), list(dict) -/
def prK : List P → Option (List (Key × D))
  | [] => some []
  | .tup [k, v] :: r => (match keyP k with
    | some k => (prK r).map ((k, .p v) :: ·)
    | none => none)
  | _ :: _ => none
def mergeD (acc more : List (Key × D)) : List (Key × D) := more.foldl (fun a kv => dput a kv.1 kv.2) acc
def dctO : G → E → Rs E := fun Γ e => match lseq Γ e with
  | some xs => (match prK xs with | some kvs => .ok Γ (.o (.dct (mergeD [] kvs))) | none => .bad)
  | none => .bad
theorem prK_ok {K : PySem.W.Frag} {H : Hp} : ∀ {xs : List P} {vs : List V} {kvs : List (Key × D)}, RPs K H xs vs → prK xs = some kvs → ∃ (ps : List Addr) (kv : List (Key × V)), vs = ps.map V.ref ∧ Paired (fun p kv => SqT K H p [kV kv.1, kv.2]) ps kv ∧ kv.length = kvs.length ∧ RDk K H kvs kv No ∧ ∀ q ∈ kvs, isP q.2 = true
  | [], _, _, .nil, h => by cases h; exact ⟨[], [], rfl, .nil, rfl, .nil, fun _ z => by cases z⟩
  | .tup [k, v] :: r, _, kvs, .cons hx hr, h => by
    cases hx with
    | @tup _ _ aa t hx =>
      cases hx with
      | cons hk hx =>
        cases hx with
        | cons hv hx =>
          cases hx
          simp only [prK] at h
          split at h
          · rename_i key hkey
            simp only [Option.map_eq_some_iff] at h
            obtain ⟨z, h, rfl⟩ := h
            obtain ⟨ps, kv, rfl, h2, h3, h4, h5⟩ := prK_ok hr h
            have e := hk.key hkey
            subst e
            refine ⟨aa :: ps, (key, _) :: kv, rfl, .cons t.sq h2, by simp [h3], .cons (F := No) (.p hv) h4 Sep.no Le.no Le.no, fun q hq => ?_⟩
            rcases List.mem_cons.mp hq with hq | hq
            · subst hq; rfl
            · exact h5 q hq
          · cases h
theorem merge_ok {K : PySem.W.Frag} {H : Hp} : ∀ {more acc : List (Key × D)} {kv av : List (Key × V)}, RDk K H more kv No → (∀ q ∈ more, isP q.2 = true) → RDk K H acc av No → RDk K H (mergeD acc more) (mergeK av kv) No
  | [], acc, _, av, .nil, _, h => h
  | (k, d) :: more, acc, _, av, .cons hd hr s a b, hp, h => by
    obtain ⟨x, rfl⟩ := isP_ex (hp _ List.mem_cons_self)
    have step := (RDk.put (k := k) h (hd.mono a) Sep.no (.inl ⟨x, rfl⟩)).mono (Le.u Le.rfl Le.rfl)
    have := merge_ok (more := more) (hr.mono b) (fun q hq => hp q (List.mem_cons_of_mem _ hq)) step
    exact this
theorem ok_dct {mg : Str → Option Value} {K : PySem.W.Frag} : Ok1 K mg B W (fun x H Q => ∃ (a : Addr) (ps : List Addr) (kvs : List (Key × V)), [x] = [V.ref a] ∧ SqL K H a (ps.map V.ref) ∧ Paired (fun p kv => SqT K H p [kV kv.1, kv.2]) ps kvs ∧
    ∀ p, H p = none → Q (.ref p) (upd H p (.dK (mergeK [] kvs)))) dctO := fun β Γ stk σ svs H a x Q r q => by
  unfold dctO at q
  split at q
  · rename_i xs hx
    split at q
    · rename_i kvs hk
      obtain ⟨p, vs, rfl, h1, h2⟩ := r.lseq hx
      obtain ⟨ps, kv, rfl, h4, h5, h6, h7⟩ := prK_ok h2 hk
      refine ⟨p, ps, kv, rfl, h1, h4, fun p' hp => q _ _ ?_⟩
      have rd := merge_ok h6 h7 (acc := []) (av := []) .nil
      exact Rel.alloc (es := []) (vs := []) (F := fun a => a = p') r.popE rfl hp (fun _ z => ⟨z, .inr ⟨_, rfl⟩⟩) fun M1 T _ n => .o (.dct (G := No) upd_same (rd.kp (kp_new (F := No) hp)) Le.no (.inl rfl) fun z => z)
    · exact q.elim
  · exact q.elim
theorem m_dict (hc : X.calm = true) (hm : X.mg "dict" = none) (ha : QE X B W a f) (hg : Gl X "dict" := by rfl) (hs : starEach [a] X.env = (false, eval a X.env) :: starEach [] X.env := by rfl) : QE X B W (.Call (.Name "dict" p) [a] [] pos) (e1 dctO f) :=
  q_b1 ha (fun t u => pe_callTy (call_dictP hc) hg hm (by decide +kernel) u (he := hs)) ok_dct hs
def kP : Key → P
  | .inl i => .int i
  | .inr s => .str s
def lsdO : G → E → Rs E := fun Γ e => match val Γ e with
  | some (.dct kvs) => .ok Γ (.o (.lst ((kvs.map fun kv => kP kv.1).map .p)))
  | _ => .bad
theorem kP_ok {K : PySem.W.Frag} {H : Hp} (k : Key) : RP K H (kP k) (kV k) := by cases k <;> constructor
theorem RDk.keysP {K : PySem.W.Frag} {H : Hp} {F : AP} : ∀ {kvs : List (Key × D)} {ps : List (Key × V)}, RDk K H kvs ps F → RPs K H (kvs.map fun kv => kP kv.1) (ps.map fun kv => kV kv.1)
  | _, _, .nil => .nil
  | (k, d) :: kvs, _, .cons h r s a b => .cons (kP_ok k) (RDk.keysP r)
theorem ok_lsd {mg : Str → Option Value} {K : PySem.W.Frag} : Ok1 K mg B W (fun x H Q => ∃ (a : Addr) (kvs : List (Key × V)), [x] = [V.ref a] ∧ Rd H a (.dK kvs) ∧ ∀ p, H p = none → Q (.ref p) (upd H p (.lst (kvs.map fun kv => kV kv.1)))) lsdO := fun β Γ stk σ svs H a x Q r q => by
  unfold lsdO at q
  split at q
  · rename_i kvs hv
    obtain ⟨F, w⟩ := r.val hv
    cases w with
    | dct w1 w2 w3 w4 w5 => exact ⟨_, _, rfl, .inl w1, fun p hp => q _ _ (r.popE.newLstP hp w2.keysP)⟩
  · exact q.elim
theorem m_lsd (hc : X.calm = true) (hm : X.mg "list" = none) (ha : QE X B W a f) (hg : Gl X "list" := by rfl) (hs : starEach [a] X.env = (false, eval a X.env) :: starEach [] X.env := by rfl) : QE X B W (.Call (.Name "list" p) [a] [] pos) (e1 lsdO f) :=
  q_b1 ha (fun t u => pe_callTy (call_listD hc) hg hm (by decide +kernel) u (he := hs)) ok_lsd hs
end
end Kv

set_option Elab.async false
set_option linter.all false
set_option maxRecDepth 100000
set_option maxHeartbeats 2000000
set_option autoImplicit false
/-! Kv, part O: enumerate of a tuple. -/
namespace Kv
open PySem PySem.Spec L2
variable [Tbl]
set_option maxHeartbeats 4000000 in
theorem meets_enumT (l : Addr) (items : Array Value) :
    Meets (Builtin.«enumerate.__new__» ⟨[.type "enumerate", .ref l], []⟩) (fun _ R s => s.heap.IsTuple l items ∧
      R (.ok (.ret (.ref (s.heap.push { cls := .type "tuple_iterator", data := .fields #[.ref l, .int 0 0] }).objs.size)))
        { s with heap := (s.heap.push { cls := .type "tuple_iterator", data := .fields #[.ref l, .int 0 0] }).push { cls := .type "enumerate", data := .fields #[.none, .bool false, .ref s.heap.objs.size, rawInt 0, .none, .none] } }) :=
  .of_wp fun prog w A R s h => by
    obtain ⟨hp, g, d, tk, os⟩ := s; obtain ⟨hL, h⟩ := h
    have hsub := sub_enumerate
    wp_walk
    refine wpAny_stack_any fun st => wpAny_pure ?_
    split
    · rename_i c _ _ _ _ _
      cases (c == Value.type "enumerate")
      · wp_walk using wpAny_pyIter_tuple hL
        exact ⟨_, rfl, h⟩
      · wp_walk using wpAny_pyIter_tuple hL
        exact ⟨_, rfl, h⟩
    · wp_walk using wpAny_pyIter_tuple hL
      exact ⟨_, rfl, h⟩
theorem call_enumT {prog : Program} {w : World} {A : Around} {E : Value → Shared → Prop} {s : Shared} {l : Addr} {items : Array Value} {Q : Value → Shared → Prop} (hL : s.heap.IsTuple l items)
    (h : ∀ h', IsEnum h' (s.heap.objs.size + 1) s.heap.objs.size 0 .none → h'.IsTupleIter s.heap.objs.size l 0 → h'.objs.size = s.heap.objs.size + 2 →
      (∀ b o, s.heap.get? b = some o → h'.get? b = some o) → Q (.ref (s.heap.objs.size + 1)) { s with heap := h' }) :
    wpAny (model prog w) A (call (.type "enumerate") [.ref l]) Q E s := by
  refine callType_new F.called_enumerate (by decide) (F.typeCall_enumerate_1 _) (F.newCall_enumerate_1 _) (fun obj => F.args_object_init_2 obj _) F.entry_enumerate_new
    (meets_enumT l items) ⟨hL, ?_⟩
  have hz : (s.heap.push { cls := .type "tuple_iterator", data := .fields #[.ref l, .int 0 0] }).objs.size = s.heap.objs.size + 1 := Heap.size_push ..
  show _ ∧ _
  rw [hz]
  have he : IsEnum ((s.heap.push { cls := .type "tuple_iterator", data := .fields #[.ref l, .int 0 0] }).push
      { cls := .type "enumerate", data := .fields #[.none, .bool false, .ref s.heap.objs.size, rawInt 0, .none, .none] }) (s.heap.objs.size + 1) s.heap.objs.size 0 .none := by
    have := Heap.get?_push_size (s.heap.push { cls := .type "tuple_iterator", data := .fields #[.ref l, .int 0 0] })
      (o := { cls := .type "enumerate", data := .fields #[.none, .bool false, .ref s.heap.objs.size, rawInt 0, .none, .none] }) rfl
    rw [hz] at this; exact this
  refine ⟨⟨_, he, rfl⟩, h _ he ⟨_, Heap.get?_push_of_some _ (Heap.get?_push_size _ rfl), rfl, rfl⟩ (by rw [Heap.size_push, hz]) fun b o x => Heap.get?_push_of_some _ (Heap.get?_push_of_some _ x)⟩
/-- the tuple at a, each item in a new pair -/
def IteT (K : PySem.W.Frag) (a : Addr) : It :=
  ⟨fun i H => ∃ (xs : List V) (x : V), SqT K H a xs ∧ xs[i]? = some x, fun i H v H' => ∃ T x o, v = .ref T ∧ H T = none ∧ o.dict = none ∧ H' = upd H T (.frz o (.tup [.int (i : Nat), x])) ∧ ∀ xs, SqT K H a xs → xs[i]? = some x, fun i H => ∃ xs : List V, SqT K H a xs ∧ xs.length ≤ i⟩
theorem turn_enumT {P : Program} {w : World} {K : PySem.W.Frag} {elts : List Expr} {kk : Nat} {tpos : Pos} (a e it : Addr) (hait : a ≠ it) :
    Turn P w K (.Tuple elts kk tpos) (IteT K a) [e, it] e (fun i h => (∃ old, IsEnum h e it ((i : Nat) : Int) old) ∧ h.IsTupleIter it a i ∧ e ≠ it) where
  mem := by simp
  obj := fun i h st b hb => by
    obtain ⟨⟨old, he⟩, ⟨o, ho, hc, hd⟩, _⟩ := st
    have e' : b = e ∨ b = it := by simpa using hb
    rcases e' with z | z
    · rw [z]; exact ⟨_, he, fun v q => nomatch q⟩
    · rw [z]; exact ⟨o, ho, fun v q => by rw [hd] at q; cases q⟩
  keep := fun i h h' st k => let ⟨⟨old, he⟩, hi, hne⟩ := st; ⟨⟨old, k e (by simp) _ he⟩, hi.at fun o q => k it (by simp) o q, hne⟩
  item := by
    intro X hP hw hK hc i pins s σ H E I hf st hg
    subst hP hw hK
    obtain ⟨⟨old, he⟩, hit, hne⟩ := st
    obtain ⟨xs, x, hq, hx⟩ := hg
    obtain ⟨its, rv, p, hz⟩ := I.tuple hq
    obtain ⟨u, hu, ru⟩ := rv.get hx
    have hel : e < s.heap.objs.size := Heap.lt_size he
    have hil : it < s.heap.objs.size := by obtain ⟨_, q, _⟩ := hit; exact Heap.lt_size q
    have hlt : i < its.toArray.size := by
      obtain ⟨q, _⟩ := List.getElem?_eq_some_iff.mp hu
      simpa using q
    have hea : e ∉ [it, a] := fun z => by
      have e' : e = it ∨ e = a := by simpa using z
      rcases e' with z | z
      · exact hne z
      · obtain ⟨o, ho, hoc, _⟩ := p
        rw [← z, he] at ho
        cases ho
        simp at hoc
    refine wpAny_pyNext_enum_itemD (Draws.tuple (A := X.A.in1) (by exact I.ok.hd hc) it a hait its.toArray) he ⟨hit, p⟩ hlt hne hea fun y h' tk hy ho st' hT hsz hk => ?_
    have hyu : y = u := by
      have : its[i]? = some y := by simpa using hy
      rw [hu] at this; cases this; rfl
    subst hyu
    refine ⟨_, rfl, wpAny_letOwnedTupleGo_enum (s := { s with heap := h', toks := tk + 1 }) ho fun h'' he' sb => ?_⟩
    have hT2 : h''.get? s.heap.objs.size = some { cls := .type "tuple", data := .seq #[.int i tk, y] } := (sb.2 _ (Nat.ne_of_gt hel)).trans hT
    let ob : Obj := { cls := .type "tuple", data := .seq #[.int i tk, y] }
    have new : ObjOk X.prog X.w (upd H s.heap.objs.size (.frz ob (.tup [.int (i : Nat), x]))) h'' s.heap.objs.size (.frz ob (.tup [.int (i : Nat), x])) :=
      ⟨hT2, by show 2 ≤ sizeLine; decide, [.int i tk, y], .cons ⟨_, rfl⟩ (.cons ru .nil), ⟨_, hT2, rfl, _, rfl⟩⟩
    have I1 : Inv X pins σ (upd H s.heap.objs.size (.frz ob (.tup [.int (i : Nat), x]))) { s with heap := h'', toks := tk + 1 } :=
      I.turnedNew (ch := [e, it]) (fun b o hb q => (sb.2 b (fun z => hb (by simp [z]))).trans (hk b o (fun z => hb (by simp [z])) (fun z => hb (by simp [z])) q)) hf (Nat.le_refl _) new
    refine ⟨.ref s.heap.objs.size, _, I1, rfl, ⟨_, x, ob, rfl, I.hok.fresh (Nat.le_refl _), rfl, rfl, fun ys hy => by rw [I.tuple_inj hy hq]; exact hx⟩, ⟨⟨y, ?_⟩, st'.1.at fun o q => (sb.2 it (Ne.symm hne)).trans q, hne⟩, fun b hb => ?_⟩
    · have e1 : ((i + 1 : Nat) : Int) = (i : Int) + 1 := by omega
      rw [e1]; exact he'
    · have hb' : b < s.heap.objs.size := by
        have e' : b = e ∨ b = it := by simpa using hb
        rcases e' with z | z
        · rw [z]; exact hel
        · rw [z]; exact hil
      rw [upd_ne (Nat.ne_of_lt hb')]
      exact (hf b hb).1
  done := by
    intro X hP hw hK hc i pins s σ H E I hf st hg
    subst hP hw hK
    obtain ⟨⟨old, he⟩, hit, hne⟩ := st
    obtain ⟨xs, hq, hx⟩ := hg
    obtain ⟨its, rv, p, hz⟩ := I.tuple hq
    obtain ⟨f0, f1, f2, f3, f4, f5⟩ := hf it (by simp)
    have hl := rv.length
    have D : Draws X.prog X.w X.A.in1 it [it, a] i (fun _ _ => True) (fun j h => j = i ∧ h.IsTupleIter it a i ∧ h.IsTuple a its.toArray) := by
      refine ⟨fun _ _ st => let ⟨o, ho, _⟩ := st.2.1; ⟨o, ho⟩, fun _ _ _ st hk => ⟨st.1, st.2.1.at fun o e => hk it (by simp) o e, st.2.2.at fun o e => hk a (by simp) o e⟩, fun j _ _ _ hj st _ => absurd st.1 (by omega), fun s Q E st hE => ?_⟩
      exact PySem.wpAny_nextOf_tuple_end (by exact I.ok.hd hc) st.2.1 st.2.2 (by simp; omega) hE
    exact wpAny_pyNext_enum_endD D he ⟨rfl, hit, p⟩ fun h' eb => ⟨rfl, I.turned (t' := s.toks) (fun b o hb q => eb b o hb q) f0 f1 f3 f4 f5⟩
  self := fun A i s Q E st h => let ⟨⟨_, he⟩, _⟩ := st; wpAny_pyIter_enum he h

section
variable {X : Cx} {B : List Nat} {β : Base} {W : XK} {e : Expr} {f : X1}
def pairs (xs : List P) (k : Nat) : List E := match xs with
  | [] => []
  | x :: r => .p (.tup [.int (k : Nat), x]) :: pairs r (k + 1)
theorem pairs_len : ∀ (xs : List P) (k : Nat), (pairs xs k).length = xs.length
  | [], _ => rfl
  | _ :: r, k => by simp [pairs, pairs_len r]
theorem pairs_get : ∀ (xs : List P) (k i : Nat), (pairs xs k)[i]? = (xs[i]?).map fun x => E.p (.tup [.int ((k + i : Nat) : Int), x])
  | [], _, _ => by simp [pairs]
  | x :: r, k, 0 => by simp [pairs]
  | x :: r, k, i + 1 => by
    simp only [pairs, List.getElem?_cons_succ, pairs_get r (k + 1) i]
    rw [show k + 1 + i = k + (i + 1) by omega]
theorem walks_enum {K : PySem.W.Frag} {xs : List P} {p : Addr} : Walks K (IteT K p) (.p (.tup xs)) (.ref p) (pairs xs 0) where
  nc := fun j z => by cases z
  ni := fun e he j z => by
    obtain ⟨i, hi, rfl⟩ := List.mem_iff_getElem.mp he
    have := pairs_get xs 0 i
    rw [List.getElem?_eq_getElem hi, z] at this
    cases hx : xs[i]? with
    | none => rw [hx] at this; cases this
    | some x => rw [hx] at this; cases this
  go := fun β Γ stk σ svs H i e r he => by
    obtain ⟨p', vs, e1, h1, h2⟩ := r.topP.tup_inv
    cases e1
    rw [pairs_get] at he
    cases hx : xs[i]? with
    | none => rw [hx] at he; cases he
    | some x =>
      rw [hx] at he; cases he
      obtain ⟨v, hv, hr⟩ := h2.get hx
      refine ⟨⟨vs, v, h1.sq, hv⟩, fun y H' ⟨T, x', o, e2, e3, e4, e5, e6⟩ => ?_⟩
      subst e2 e5
      have := e6 vs h1.sq
      rw [hv] at this; cases this
      rw [Nat.zero_add]
      exact r.newTup e3 (.cons (.int _) (.cons hr .nil)) e4
  stop := fun β Γ stk σ svs H r => by
    obtain ⟨p', vs, e1, h1, h2⟩ := r.topP.tup_inv
    cases e1
    exact ⟨vs, h1.sq, by rw [pairs_len, h2.length]; exact Nat.le_refl _⟩
def iEnT (K : PySem.W.Frag) (ta : TA) : TI := fun σ H R => ta σ H fun vs H1 => ∃ a xs, vs = [.ref a] ∧ SqT K H1 a xs ∧ R (IteT K a) H1
theorem pi_enumT {ta : TA} {p pos tpos : Pos} {elts : List Expr} {kk : Nat} (hg : Gl X "enumerate") (hm : X.mg "enumerate" = none) (ha : PA X [e] ta) (hs : starEach [e] X.env = [(false, eval e X.env)] := by rfl) :
    PI X (.Tuple elts kk tpos) (.Call (.Name "enumerate" p) [e] [] pos) (iEnT X.K ta) := by
  refine ⟨fun pins s σ H R I h => ?_⟩
  refine PyProof.Rows.Call_ (ld_blt I hg hm PyProof.Rows.boot_enumerate (PyProof.Rows.callWith_type1 (thn (ha.run pos pins s σ H _ I h) fun us s1 ⟨vs, H1, I1, r1, q1⟩ => ?_) hs rfl))
  obtain ⟨a, xs, ex, hq, q⟩ := q1
  subst ex
  cases r1 with
  | cons r rr =>
    cases rr
    cases r
    obtain ⟨its, rv, p', hz⟩ := I1.tuple hq
    have hal : a < s1.heap.objs.size := by obtain ⟨o, ho, _⟩ := p'; exact Heap.lt_size ho
    refine call_enumT p' fun h' he hit hsz hk => wpAny_pyIter_enum he ?_
    have I2 : Inv X pins σ H1 { s1 with heap := h' } := I1.kept (t' := s1.toks) hk
    refine ⟨s1.heap.objs.size + 1, [s1.heap.objs.size + 1, s1.heap.objs.size], _, _, H1, rfl, I2, turn_enumT a (s1.heap.objs.size + 1) s1.heap.objs.size (Nat.ne_of_lt hal), ⟨⟨.none, he⟩, hit, Nat.succ_ne_self _⟩, fun b hb => ?_, q⟩
    have e' : b = s1.heap.objs.size + 1 ∨ b = s1.heap.objs.size := by simpa using hb
    have hle : s1.heap.objs.size ≤ b := by
      rcases e' with z | z
      · rw [z]; exact Nat.le_add_right _ _
      · rw [z]; exact Nat.le_refl _
    exact I1.fpOk hle (I1.hok.fresh hle)
def enI (f : X1) : XI := fun Γ => (f Γ).bind fun Γ1 e => match e with
  | .p (.tup xs) => .ok Γ1 (.p (.tup xs), pairs xs 0)
  | _ => .bad
theorem i_enum {p pos tpos : Pos} {elts : List Expr} {kk : Nat} (hg : Gl X "enumerate") (hm : X.mg "enumerate" = none) (ha : QE X B W e f) (hs : starEach [e] X.env = [(false, eval e X.env)] := by rfl) : QI X B W (.Tuple elts kk tpos) (.Call (.Name "enumerate" p) [e] [] pos) (enI f) :=
  PI.imp (pi_enumT hg hm (pa_cons ha pa_nil hs) hs) fun σ H R ⟨β, Γ, stk, svs, r, q⟩ => by
    refine ⟨β, Γ, stk, svs, r, Rs.sat_mono (Rs.sat_bind.1 q) (fun Γ1 x q1 H1 v r1 => ?_) fun _ z => z⟩
    split at q1
    · obtain ⟨p', vs, e1, h1, h2⟩ := r1.topP.tup_inv
      subst e1
      exact ⟨p', vs, rfl, h1.sq, q1 _ _ _ r1 walks_enum⟩
    · exact q1.elim
end
end Kv

set_option Elab.async false
set_option linter.all false
set_option maxRecDepth 100000
set_option maxHeartbeats 4000000
set_option autoImplicit false
/-! Kv, part P: list(zip(a, b, strict=True)) of two tuples of one length. -/
namespace Kv
open PySem PySem.Spec L2
variable [Tbl]
/-- a strict zip, as it stands between two draws -/
abbrev IsZipS (h : Heap) (z TI TO : Addr) (f0 f1 : Value) : Prop :=
  h.get? z = some { cls := .type "zip", dict := none, data := .fields #[f0, f1, .bool true, .ref TI, .ref TO], slots := #[] }
section
variable {prog : Program} {w : World} {A : Around} {E : Value → Shared → Prop} {s : Shared}
theorem nextOrEnd_item {it l : Addr} {i : Nat} {items : Array Value} {x : Value} {Q : Option Value → Shared → Prop} (hit : s.heap.IsTupleIter it l i) (hl : s.heap.IsTuple l items) (hx : items[i]? = some x)
    (hQ : ∀ h', h'.IsTupleIter it l (i + 1) → Heap.SameBut it s.heap h' → Q (some x) { s with heap := h' }) : wpAny (model prog w) A (Builtin.SmallTypes.nextOrEnd (.ref it)) Q E s := by
  unfold Builtin.SmallTypes.nextOrEnd
  exact wpAny_bind (wpAny_attempt (RZ.nextOf_tuple_item hit hl hx fun h' a b => wpAny_pure (hQ h' a b)))
theorem nextOrEnd_end {it l : Addr} {i : Nat} {items : Array Value} {Q : Option Value → Shared → Prop} (hh : A.handled = none) (hit : s.heap.IsTupleIter it l i) (hl : s.heap.IsTuple l items) (hx : items[i]? = none)
    (hQ : ∀ h', Heap.ExtBut it s.heap h' → Q none { s with heap := h' }) : wpAny (model prog w) A (Builtin.SmallTypes.nextOrEnd (.ref it)) Q E s := by
  unfold Builtin.SmallTypes.nextOrEnd
  refine wpAny_bind (wpAny_attempt (RZ.nextOf_tuple_end hh hit hl hx fun h' e hk he => ?_))
  obtain ⟨o, ho, hc⟩ := he
  refine wpAny_bind (wpAny_isInstance (T := "StopIteration") (b := true) ⟨o, ho, hc⟩ isSubtype_stop ?_)
  exact wpAny_pure (hQ _ hk)
/-- the first draw -/
theorem zs_first {z TI TO i1 i2 l1 l2 : Addr} {k1 k2 : Nat} {xs ys : Array Value} {x y a b : Value} {Q : Value → Shared → Prop} (D : ZipApart z TI TO i1 i2 l1 l2)
    (hz : IsZipS s.heap z TI TO .none (.bool false)) (hTI : IsPair s.heap TI (.ref i1) (.ref i2)) (hTO : IsPair s.heap TO a b)
    (h1 : s.heap.IsTupleIter i1 l1 k1) (h2 : s.heap.IsTupleIter i2 l2 k2) (hl1 : s.heap.IsTuple l1 xs) (hl2 : s.heap.IsTuple l2 ys) (hx : xs[k1]? = some x) (hy : ys[k2]? = some y)
    (hQ : ∀ h', IsZipS h' z TI TO (rawInt s.heap.objs.size) (.bool false) → IsPair h' TO x y → h'.IsTupleIter i1 l1 (k1 + 1) → h'.IsTupleIter i2 l2 (k2 + 1) → IsPair h' s.heap.objs.size x y → h'.objs.size = s.heap.objs.size + 1 →
      (∀ c o, c ≠ z → c ≠ TO → c ≠ i1 → c ≠ i2 → s.heap.get? c = some o → h'.get? c = some o) → Q (.ref s.heap.objs.size) { s with heap := h' }) :
    wpAny (model prog w) A (Builtin.«zip.__next__» ⟨[.ref z], []⟩) (fun fin s' => ∃ v, fin = .done (.ret v) ∧ Q v s') E s := by
  show wpAny _ _ (field (.ref z) 2 >>= _) _ _ _
  refine wpAny_bind (wpAny_field hz rfl (x := .bool true) rfl ?_)
  show wpAny _ _ (field (.ref z) 3 >>= _) _ _ _
  refine wpAny_bind (wpAny_field hz rfl (x := .ref TI) rfl ?_)
  refine wpAny_bind (wpAny_seqItems hTI rfl ?_)
  show wpAny _ _ (Builtin.SmallTypes.ownedTupleIsFree (.ref z) >>= _) _ _ _
  refine wpAny_bind ?_
  unfold Builtin.SmallTypes.ownedTupleIsFree
  refine wpAny_bind (wpAny_field hz rfl (x := .none) rfl (wpAny_pure ?_))
  simp only [if_true]
  refine wpAny_bind (wpAny_rule ?_)
  refine wpAny_bind (wpAny_field hz rfl (x := .ref TO) rfl ?_)
  refine wpAny_bind (wpAny_setField_rec hz (by simp) fun h₁ hz₁ hs₁ => ?_)
  replace hz₁ : IsZipS h₁ z TI TO .ellipsis (.bool false) := hz₁
  refine wpAny_bind ?_
  simp only [List.zipIdx_cons, List.zipIdx_nil, List.forIn_cons, List.forIn_nil]
  refine wpAny_bind (wpAny_bind (wpAny_onRaise ?_))
  show wpAny _ _ (Builtin.SmallTypes.nextOrEnd (.ref i1)) _ _ _
  refine nextOrEnd_item (h1.extBut hs₁.extBut D.i1z) (hl1.extBut hs₁.extBut D.l1z) hx fun h₂ h1₂ hs₂ => ?_
  have hTO₂ : IsPair h₂ TO a b := hs₂.extBut _ _ D.TOi1 (hs₁.extBut _ _ D.TOz hTO)
  refine wpAny_bind (wpAny_seqItems hTO₂ rfl ?_)
  refine wpAny_bind (wpAny_updateSeq_pair hTO₂ fun h₃ hTO₃ hs₃ => ?_)
  replace hTO₃ : IsPair h₃ TO x b := hTO₃
  refine wpAny_bind (wpAny_letGo (wpAny_pure ?_))
  refine wpAny_bind (wpAny_bind (wpAny_onRaise ?_))
  show wpAny _ _ (Builtin.SmallTypes.nextOrEnd (.ref i2)) _ _ _
  refine nextOrEnd_item (((h2.extBut hs₁.extBut D.i2z).extBut hs₂.extBut D.i12.symm).extBut hs₃.extBut D.TOi2.symm)
    (((hl2.extBut hs₁.extBut D.l2z).extBut hs₂.extBut D.l2i1).extBut hs₃.extBut D.l2TO) hy fun h₄ h2₄ hs₄ => ?_
  have hTO₄ : IsPair h₄ TO x b := hs₄.extBut _ _ D.TOi2 hTO₃
  refine wpAny_bind (wpAny_seqItems hTO₄ rfl ?_)
  refine wpAny_bind (wpAny_updateSeq_pair hTO₄ fun h₅ hTO₅ hs₅ => ?_)
  replace hTO₅ : IsPair h₅ TO x y := hTO₅
  refine wpAny_bind (wpAny_letGo (wpAny_pure (wpAny_pure ?_)))
  refine wpAny_bind (wpAny_seqItems hTO₅ rfl ?_)
  refine wpAny_bind (wpAny_newTuple ?_)
  have hsz : h₅.objs.size = s.heap.objs.size := by rw [hs₅.1, hs₄.1, hs₃.1, hs₂.1, hs₁.1]
  have hz₅ : IsZipS h₅ z TI TO .ellipsis (.bool false) := hs₅.extBut _ _ D.TOz.symm (hs₄.extBut _ _ D.i2z.symm (hs₃.extBut _ _ D.TOz.symm (hs₂.extBut _ _ D.i1z.symm hz₁)))
  have hk₅ : ∀ c o, c ≠ z → c ≠ TO → c ≠ i1 → c ≠ i2 → s.heap.get? c = some o → h₅.get? c = some o := fun c o c1 c2 c3 c4 e =>
    hs₅.extBut _ _ c2 (hs₄.extBut _ _ c4 (hs₃.extBut _ _ c2 (hs₂.extBut _ _ c3 (hs₁.extBut _ _ c1 e))))
  have h1₅ : h₅.IsTupleIter i1 l1 (k1 + 1) := ((h1₂.extBut hs₃.extBut D.TOi1.symm).extBut hs₄.extBut D.i12).extBut hs₅.extBut D.TOi1.symm
  have h2₅ : h₅.IsTupleIter i2 l2 (k2 + 1) := h2₄.extBut hs₅.extBut D.TOi2.symm
  have hzlt : z < h₅.objs.size := Heap.lt_size hz₅
  show wpAny _ _ (Builtin.SmallTypes.ownedTupleHandOut (.ref z) (.ref h₅.objs.size) >>= _) _ _ _
  refine wpAny_bind ?_
  unfold Builtin.SmallTypes.ownedTupleHandOut
  have hz₆ : IsZipS (h₅.push { cls := .type "tuple", data := .seq #[x, y] }) z TI TO .ellipsis (.bool false) := Heap.get?_push_of_some _ hz₅
  refine wpAny_bind (wpAny_setField_rec hz₆ (by simp) fun h₇ hz₇ hs₇ => ?_)
  replace hz₇ : IsZipS h₇ z TI TO (rawInt h₅.objs.size) (.bool false) := hz₇
  refine wpAny_setField_rec hz₇ (by simp) fun h₈ hz₈ hs₈ => ?_
  replace hz₈ : IsZipS h₈ z TI TO (rawInt h₅.objs.size) (.bool false) := hz₈
  have up : ∀ c o, c ≠ z → h₅.get? c = some o → h₈.get? c = some o := fun c o c1 e => hs₈.extBut _ _ c1 (hs₇.extBut _ _ c1 (Heap.get?_push_of_some _ e))
  have hT₈ : IsPair h₈ h₅.objs.size x y := hs₈.extBut _ _ (Nat.ne_of_gt hzlt) (hs₇.extBut _ _ (Nat.ne_of_gt hzlt) (Heap.get?_push_size _ rfl))
  have hz8 : h₈.objs.size = h₅.objs.size + 1 := by rw [hs₈.1, hs₇.1, Heap.size_push]
  rw [hsz] at hz₈ hT₈ hz8
  refine wpAny_pure ⟨_, rfl, ?_⟩
  show Q (.ref h₅.objs.size) _
  rw [hsz]
  exact hQ h₈ hz₈ (up _ _ D.TOz hTO₅) (h1₅.at fun o e => up _ o D.i1z e) (h2₅.at fun o e => up _ o D.i2z e) hT₈ hz8 fun c o c1 c2 c3 c4 e => up c o c1 (hk₅ c o c1 c2 c3 c4 e)
theorem zs_held {z TI TO T : Addr} {f : Bool} {oT : Obj} {Q : Bool → Shared → Prop} (hz : IsZipS s.heap z TI TO (rawInt T) (.bool f)) (hT : s.heap.get? T = some oT)
    (h : ∀ h', IsZipS h' z TI TO (rawInt T) (.bool true) → Heap.SameBut z s.heap h' → Q false { s with heap := h' }) : wpAny (model prog w) A (Builtin.SmallTypes.ownedTupleIsFree (.ref z)) Q E s := by
  unfold Builtin.SmallTypes.ownedTupleIsFree
  refine wpAny_bind (wpAny_field hz rfl (x := rawInt T) rfl ?_)
  show wpAny _ _ (loadIfAlive ((T : Int).toNat) >>= _) _ _ _
  rw [Int.toNat_natCast]
  refine wpAny_bind (PySem.W.kdx_alive hT ?_)
  simp only [Option.isNone_some, Bool.false_eq_true, if_false]
  refine wpAny_bind (wpAny_field hz rfl (x := .bool f) rfl ?_)
  cases f with
  | true =>
    rw [if_neg (show ¬ ((Value.bool true != Value.bool true) = true) from Bool.false_ne_true)]
    exact wpAny_pure (h s.heap hz (Heap.SameBut.refl _ _))
  | false =>
    rw [if_pos (show (Value.bool false != Value.bool true) = true from rfl)]
    exact wpAny_bind (wpAny_setField_rec hz (by simp) fun h₁ hz₁ hs₁ => wpAny_pure (h h₁ hz₁ hs₁))
/-- the next draws, the first pair still there -/
theorem zs_next {z TI TO T i1 i2 l1 l2 : Addr} {f : Bool} {oT : Obj} {k1 k2 : Nat} {xs ys : Array Value} {x y : Value} {Q : Value → Shared → Prop} (D : ZipApart z TI TO i1 i2 l1 l2)
    (hz : IsZipS s.heap z TI TO (rawInt T) (.bool f)) (hT : s.heap.get? T = some oT) (hTI : IsPair s.heap TI (.ref i1) (.ref i2))
    (h1 : s.heap.IsTupleIter i1 l1 k1) (h2 : s.heap.IsTupleIter i2 l2 k2) (hl1 : s.heap.IsTuple l1 xs) (hl2 : s.heap.IsTuple l2 ys) (hx : xs[k1]? = some x) (hy : ys[k2]? = some y)
    (hQ : ∀ h', IsZipS h' z TI TO (rawInt T) (.bool true) → h'.IsTupleIter i1 l1 (k1 + 1) → h'.IsTupleIter i2 l2 (k2 + 1) → IsPair h' s.heap.objs.size x y → h'.objs.size = s.heap.objs.size + 1 →
      (∀ c o, c ≠ z → c ≠ i1 → c ≠ i2 → s.heap.get? c = some o → h'.get? c = some o) → Q (.ref s.heap.objs.size) { s with heap := h' }) :
    wpAny (model prog w) A (Builtin.«zip.__next__» ⟨[.ref z], []⟩) (fun fin s' => ∃ v, fin = .done (.ret v) ∧ Q v s') E s := by
  show wpAny _ _ (field (.ref z) 2 >>= _) _ _ _
  refine wpAny_bind (wpAny_field hz rfl (x := .bool true) rfl ?_)
  show wpAny _ _ (field (.ref z) 3 >>= _) _ _ _
  refine wpAny_bind (wpAny_field hz rfl (x := .ref TI) rfl ?_)
  refine wpAny_bind (wpAny_seqItems hTI rfl ?_)
  show wpAny _ _ (Builtin.SmallTypes.ownedTupleIsFree (.ref z) >>= _) _ _ _
  refine wpAny_bind (zs_held hz hT fun h₁ hz₁ hs₁ => ?_)
  simp only [Bool.false_eq_true, if_false]
  refine wpAny_bind ?_
  rw [← Array.forIn_toList]
  simp only [List.forIn_cons, List.forIn_nil]
  refine wpAny_bind (wpAny_bind (wpAny_holding ?_))
  show wpAny _ _ (Builtin.SmallTypes.nextOrEnd (.ref i1)) _ _ _
  refine nextOrEnd_item (s := { s with heap := h₁ }) (h1.extBut hs₁.extBut D.i1z) (hl1.extBut hs₁.extBut D.l1z) hx fun h₂ h1₂ hs₂ => ?_
  refine wpAny_pure ?_
  refine wpAny_bind (wpAny_bind (wpAny_holding ?_))
  show wpAny _ _ (Builtin.SmallTypes.nextOrEnd (.ref i2)) _ _ _
  refine nextOrEnd_item (s := { s with heap := h₂ }) ((h2.extBut hs₁.extBut D.i2z).extBut hs₂.extBut D.i12.symm) ((hl2.extBut hs₁.extBut D.l2z).extBut hs₂.extBut D.l2i1) hy fun h₃ h2₃ hs₃ => ?_
  refine wpAny_pure (wpAny_pure ?_)
  show wpAny _ _ (newTuple [x, y] >>= _) _ _ _
  refine wpAny_bind (wpAny_newTuple ?_)
  have hsz : h₃.objs.size = s.heap.objs.size := by rw [hs₃.1, hs₂.1, hs₁.1]
  have hz₃ : IsZipS h₃ z TI TO (rawInt T) (.bool true) := hs₃.extBut _ _ D.i2z.symm (hs₂.extBut _ _ D.i1z.symm hz₁)
  have hk : ∀ c o, c ≠ z → c ≠ i1 → c ≠ i2 → s.heap.get? c = some o → h₃.get? c = some o := fun c o c1 c2 c3 e => hs₃.extBut _ _ c3 (hs₂.extBut _ _ c2 (hs₁.extBut _ _ c1 e))
  have h1₃ : h₃.IsTupleIter i1 l1 (k1 + 1) := h1₂.extBut hs₃.extBut D.i12
  refine wpAny_pure ⟨_, rfl, ?_⟩
  show Q (.ref h₃.objs.size) _
  have hp : IsPair (h₃.push { cls := .type "tuple", data := .seq #[x, y] }) h₃.objs.size x y := Heap.get?_push_size _ rfl
  have hz4 : (h₃.push { cls := .type "tuple", data := .seq #[x, y] }).objs.size = h₃.objs.size + 1 := Heap.size_push ..
  rw [hsz] at hp hz4 ⊢
  exact hQ _ (Heap.get?_push_of_some _ hz₃) (h1₃.at fun o e => Heap.get?_push_of_some _ e) (h2₃.at fun o e => Heap.get?_push_of_some _ e) hp hz4 fun c o c1 c2 c3 e => Heap.get?_push_of_some _ (hk c o c1 c2 c3 e)
theorem stopIter {α : Type} {Q : α → Shared → Prop} (hh : A.handled = none) (hE : ∀ h' e, (∀ c o, s.heap.get? c = some o → h'.get? c = some o) → (∃ o, h'.get? e = some o ∧ o.cls = .type "StopIteration") → E (.ref e) { s with heap := h' }) :
    wpAny (model prog w) A (Builtin.SmallTypes.stopIteration : Sem α) Q E s := by
  unfold Builtin.SmallTypes.stopIteration
  show wpAny _ _ (newExc (.type "StopIteration") [] >>= _) _ _ _
  refine wpAny_bind ?_
  simp only [newExc, newTuple]
  refine wpAny_bind (wpAny_newObj_type ?_ (by size_fits))
  refine wpAny_bind (m := firstArgMember _ _) (wpAny_of_eq (a := Value.none) (by first | rfl | (simp only [firstArgMember]; rfl)) ?_)
  refine wpAny_newObj_type ?_ (by size_fits)
  simp only [raiseNew]
  refine wpAny_bind (wpAny_handled ?_)
  rw [hh]
  refine wpAny_bind (wpAny_pure (wpAny_throw ?_))
  exact hE _ _ (fun c o e => Heap.get?_push_of_some _ (Heap.get?_push_of_some _ e)) ⟨_, Heap.get?_push_size _ rfl, rfl⟩
/-- the end: both have ended -/
theorem zs_done {z TI TO T i1 i2 l1 l2 : Addr} {f : Bool} {oT : Obj} {k1 k2 : Nat} {xs ys : Array Value} {Q : Fin → Shared → Prop} (hh : A.handled = none) (D : ZipApart z TI TO i1 i2 l1 l2)
    (hz : IsZipS s.heap z TI TO (rawInt T) (.bool f)) (hT : s.heap.get? T = some oT) (hTI : IsPair s.heap TI (.ref i1) (.ref i2))
    (h1 : s.heap.IsTupleIter i1 l1 k1) (h2 : s.heap.IsTupleIter i2 l2 k2) (hl1 : s.heap.IsTuple l1 xs) (hl2 : s.heap.IsTuple l2 ys) (hx : xs[k1]? = none) (hy : ys[k2]? = none)
    (hE : ∀ h' e, (∀ c o, c ≠ z → c ≠ i1 → c ≠ i2 → s.heap.get? c = some o → h'.get? c = some o) → (∃ o, h'.get? e = some o ∧ o.cls = .type "StopIteration") → E (.ref e) { s with heap := h' }) :
    wpAny (model prog w) A (Builtin.«zip.__next__» ⟨[.ref z], []⟩) Q E s := by
  show wpAny _ _ (field (.ref z) 2 >>= _) _ _ _
  refine wpAny_bind (wpAny_field hz rfl (x := .bool true) rfl ?_)
  show wpAny _ _ (field (.ref z) 3 >>= _) _ _ _
  refine wpAny_bind (wpAny_field hz rfl (x := .ref TI) rfl ?_)
  refine wpAny_bind (wpAny_seqItems hTI rfl ?_)
  show wpAny _ _ (Builtin.SmallTypes.ownedTupleIsFree (.ref z) >>= _) _ _ _
  refine wpAny_bind (zs_held hz hT fun h₁ hz₁ hs₁ => ?_)
  simp only [Bool.false_eq_true, if_false]
  refine wpAny_bind ?_
  rw [← Array.forIn_toList]
  simp only [List.forIn_cons, List.forIn_nil]
  refine wpAny_bind (wpAny_bind (wpAny_holding ?_))
  show wpAny _ _ (Builtin.SmallTypes.nextOrEnd (.ref i1)) _ _ _
  refine nextOrEnd_end (s := { s with heap := h₁ }) hh (h1.extBut hs₁.extBut D.i1z) (hl1.extBut hs₁.extBut D.l1z) hx fun h₂ hs₂ => ?_
  refine wpAny_bind ?_
  wp_delta
  rw [if_neg (show ¬ ((#[] : Array Value).size > 0) from Nat.lt_irrefl 0)]
  refine wpAny_bind ?_
  simp only [List.drop_succ_cons, List.drop_zero, List.zipIdx_cons, List.zipIdx_nil, List.forIn_cons, List.forIn_nil]
  refine wpAny_bind (wpAny_bind (nextOrEnd_end (s := { s with heap := h₂ }) hh (((h2.extBut hs₁.extBut D.i2z).extBut hs₂ D.i12.symm)) (((hl2.extBut hs₁.extBut D.l2z).extBut hs₂ D.l2i1)) hy fun h₃ hs₃ => ?_))
  refine wpAny_pure (wpAny_pure ?_)
  refine wpAny_bind (wpAny_rule ?_)
  exact stopIter hh fun h' e hk he => hE h' e (fun c o c1 c2 c3 x => hk _ _ (hs₃ _ _ c3 (hs₂ _ _ c2 (hs₁.extBut _ _ c1 x)))) he
/-- .. of two empty ones -/
theorem zs_done0 {z TI TO i1 i2 l1 l2 : Addr} {k1 k2 : Nat} {xs ys : Array Value} {a b : Value} {Q : Fin → Shared → Prop} (hh : A.handled = none) (D : ZipApart z TI TO i1 i2 l1 l2)
    (hz : IsZipS s.heap z TI TO .none (.bool false)) (hTI : IsPair s.heap TI (.ref i1) (.ref i2)) (hTO : IsPair s.heap TO a b)
    (h1 : s.heap.IsTupleIter i1 l1 k1) (h2 : s.heap.IsTupleIter i2 l2 k2) (hl1 : s.heap.IsTuple l1 xs) (hl2 : s.heap.IsTuple l2 ys) (hx : xs[k1]? = none) (hy : ys[k2]? = none)
    (hE : ∀ h' e, (∀ c o, c ≠ z → c ≠ TO → c ≠ i1 → c ≠ i2 → s.heap.get? c = some o → h'.get? c = some o) → (∃ o, h'.get? e = some o ∧ o.cls = .type "StopIteration") → E (.ref e) { s with heap := h' }) :
    wpAny (model prog w) A (Builtin.«zip.__next__» ⟨[.ref z], []⟩) Q E s := by
  show wpAny _ _ (field (.ref z) 2 >>= _) _ _ _
  refine wpAny_bind (wpAny_field hz rfl (x := .bool true) rfl ?_)
  show wpAny _ _ (field (.ref z) 3 >>= _) _ _ _
  refine wpAny_bind (wpAny_field hz rfl (x := .ref TI) rfl ?_)
  refine wpAny_bind (wpAny_seqItems hTI rfl ?_)
  show wpAny _ _ (Builtin.SmallTypes.ownedTupleIsFree (.ref z) >>= _) _ _ _
  refine wpAny_bind ?_
  unfold Builtin.SmallTypes.ownedTupleIsFree
  refine wpAny_bind (wpAny_field hz rfl (x := .none) rfl (wpAny_pure ?_))
  simp only [if_true]
  refine wpAny_bind (wpAny_rule ?_)
  refine wpAny_bind (wpAny_field hz rfl (x := .ref TO) rfl ?_)
  refine wpAny_bind (wpAny_setField_rec hz (by simp) fun h₁ hz₁ hs₁ => ?_)
  replace hz₁ : IsZipS h₁ z TI TO .ellipsis (.bool false) := hz₁
  refine wpAny_bind ?_
  simp only [List.zipIdx_cons, List.zipIdx_nil, List.forIn_cons, List.forIn_nil]
  refine wpAny_bind (wpAny_bind (wpAny_onRaise ?_))
  show wpAny _ _ (Builtin.SmallTypes.nextOrEnd (.ref i1)) _ _ _
  refine nextOrEnd_end (s := { s with heap := h₁ }) hh (h1.extBut hs₁.extBut D.i1z) (hl1.extBut hs₁.extBut D.l1z) hx fun h₂ hs₂ => ?_
  have hz₂ : IsZipS h₂ z TI TO .ellipsis (.bool false) := hs₂ _ _ D.i1z.symm hz₁
  refine wpAny_bind (wpAny_setField_rec hz₂ (by simp) fun h₃ hz₃ hs₃ => ?_)
  refine wpAny_bind ?_
  wp_delta
  rw [if_neg (show ¬ ((0 : Nat) > 0) from Nat.lt_irrefl 0)]
  refine wpAny_bind ?_
  simp only [List.drop_succ_cons, List.drop_zero, List.zipIdx_cons, List.zipIdx_nil, List.forIn_cons, List.forIn_nil]
  refine wpAny_bind (wpAny_bind (nextOrEnd_end (s := { s with heap := h₃ }) hh (((h2.extBut hs₁.extBut D.i2z).extBut hs₂ D.i12.symm).extBut hs₃.extBut D.i2z) (((hl2.extBut hs₁.extBut D.l2z).extBut hs₂ D.l2i1).extBut hs₃.extBut D.l2z) hy fun h₄ hs₄ => ?_))
  refine wpAny_pure (wpAny_pure ?_)
  refine wpAny_bind (wpAny_rule ?_)
  exact stopIter hh fun h' e hk he => hE h' e (fun c o c1 c2 c3 c4 x => hk _ _ (hs₄ _ _ c4 (hs₃.extBut _ _ c1 (hs₂ _ _ c3 (hs₁.extBut _ _ c1 x))))) he
theorem zipS_next {z TI TO : Addr} {f0 f1 : Value} {Q : Option Value → Shared → Prop} (hz : IsZipS s.heap z TI TO f0 f1)
    (h : wpAny (model prog w) A.in1 (Builtin.«zip.__next__» ⟨[.ref z], []⟩) (fun fin s' => ∃ v, fin = .done (.ret v) ∧ Q (some v) s') (fun e s' => (∃ o a, e = .ref a ∧ s'.heap.get? a = some o ∧ o.cls = .type "StopIteration") ∧ Q none s') s) :
    wpAny (model prog w) A (pyNext (.ref z)) Q E s := by
  have hT : s.TypeIs (.ref z) "zip" := ⟨_, hz, rfl⟩
  unfold pyNext
  refine wpAny_bind (wpAny_attempt (wpAny_callSpecial?_slot (name := Str.ofString "__next__") hT F.slot_zip_next
    (wpAny_call_entry F.slot_zip_next hT F.entry_zip_next (wpAny_mono h (fun fin s' hq => ?_) fun e s' hq => ?_) (F.args_zip_next_1 _))))
  · obtain ⟨v, rfl, q⟩ := hq
    exact ⟨v, rfl, wpAny_pure q⟩
  · obtain ⟨⟨o, a, rfl, ho, hc⟩, q⟩ := hq
    refine wpAny_bind (wpAny_isInstance (T := "StopIteration") (b := true) ⟨o, ho, hc⟩ isSubtype_stop ?_)
    exact wpAny_pure q
end
/-- the list in the making -/
structure ZL (z TI TO i1 i2 l1 l2 S : Addr) (xs ys : Array Value) (h0 : Heap) (i : Nat) (acc : Array Value) (h : Heap) : Prop where
  lst : ∃ c, h.get? S = some { cls := .type "list", dict := none, data := .seq acc c, slots := #[] }
  zip : (IsZipS h z TI TO .none (.bool false) ∧ ∃ a b, IsPair h TO a b) ∨ ∃ T f oT, IsZipS h z TI TO (rawInt (T : Addr)) (.bool f) ∧ h.get? T = some oT ∧ S < T
  ti : IsPair h TI (.ref i1) (.ref i2)
  a1 : h.IsTupleIter i1 l1 i
  a2 : h.IsTupleIter i2 l2 i
  b1 : h.IsTuple l1 xs
  b2 : h.IsTuple l2 ys
  sz : acc.size = i
  prs : ∀ (j : Nat) v, acc[j]? = some v → ∃ (T : Addr) (x y : Value), v = .ref T ∧ S < T ∧ IsPair h T x y ∧ xs[j]? = some x ∧ ys[j]? = some y
  inj : ∀ (j k : Nat) (T : Addr), acc[j]? = some (.ref T) → acc[k]? = some (.ref T) → j = k
  old : ∀ b o, b ≠ z → b ≠ TO → b ≠ i1 → b ≠ i2 → h0.get? b = some o → h.get? b = some o
/-- the list made -/
structure ZE (z TO i1 i2 S : Addr) (xs ys : Array Value) (h0 : Heap) (acc : Array Value) (h : Heap) : Prop where
  lst : ∃ c, h.get? S = some { cls := .type "list", dict := none, data := .seq acc c, slots := #[] }
  sz : acc.size = xs.size
  prs : ∀ (j : Nat) v, acc[j]? = some v → ∃ (T : Addr) (x y : Value), v = .ref T ∧ S < T ∧ IsPair h T x y ∧ xs[j]? = some x ∧ ys[j]? = some y
  inj : ∀ (j k : Nat) (T : Addr), acc[j]? = some (.ref T) → acc[k]? = some (.ref T) → j = k
  old : ∀ b o, b ≠ z → b ≠ TO → b ≠ i1 → b ≠ i2 → h0.get? b = some o → h.get? b = some o
section
variable {prog : Program} {w : World} {A : Around} {R : Result → Shared → Prop} {z TI TO i1 i2 l1 l2 S : Addr} {xs ys : Array Value} {h0 : Heap}
theorem zl_loop (hh : A.handled = none) (D : ZipApart z TI TO i1 i2 l1 l2) (hlt : ∀ b ∈ [z, TI, TO, i1, i2, l1, l2], b < S) (hold : ∀ o, h0.get? S ≠ some o) (hxy : xs.size = ys.size) (hn : xs.size ≤ sizeLine) (res : Value) :
    ∀ (k i : Nat) (s : Shared) (acc : Array Value), xs.size - i = k → i ≤ xs.size → ZL z TI TO i1 i2 l1 l2 S xs ys h0 i acc s.heap →
    (∀ h' acc', ZE z TO i1 i2 S xs ys h0 acc' h' → R (.ok (.ret res)) { s with heap := h' }) →
    codeAny (model prog w) A (.builtin "list.extend.loop" ⟨[.ref S, .ref z, res], []⟩) R s := by
  have lz : z < S := hlt z (by simp)
  have lTO : TO < S := hlt TO (by simp)
  have li1 : i1 < S := hlt i1 (by simp)
  have li2 : i2 < S := hlt i2 (by simp)
  have lTI : TI < S := hlt TI (by simp)
  have ll1 : l1 < S := hlt l1 (by simp)
  have ll2 : l2 < S := hlt l2 (by simp)
  intro k
  induction k with
  | zero =>
    intro i s acc hk hi Z hR
    have hin : i = xs.size := by omega
    have hx : xs[i]? = none := Array.getElem?_eq_none (by omega)
    have hy : ys[i]? = none := Array.getElem?_eq_none (by omega)
    refine codeAny_builtin F.entry_extend_loop ?_
    rw [Around.under_plainId F.plain_extend_loop _]
    show wpAny _ A.in1 (pyNext (.ref z) >>= _) _ _ s
    have fin : ∀ h', (∀ c o, c ≠ z → c ≠ TO → c ≠ i1 → c ≠ i2 → s.heap.get? c = some o → h'.get? c = some o) → R (.ok (.ret res)) { s with heap := h' } := fun h' hk => by
      obtain ⟨c, hc⟩ := Z.lst
      refine hR h' acc ⟨⟨c, hk _ _ (Nat.ne_of_gt lz) (Nat.ne_of_gt lTO) (Nat.ne_of_gt li1) (Nat.ne_of_gt li2) hc⟩, by rw [Z.sz, hin], fun j v hj => ?_, Z.inj, fun b o c1 c2 c3 c4 e => hk _ _ c1 c2 c3 c4 (Z.old b o c1 c2 c3 c4 e)⟩
      obtain ⟨T, x, y, e1, e2, e3, e4, e5⟩ := Z.prs j v hj
      exact ⟨T, x, y, e1, e2, hk _ _ (Nat.ne_of_gt (Nat.lt_trans lz e2)) (Nat.ne_of_gt (Nat.lt_trans lTO e2)) (Nat.ne_of_gt (Nat.lt_trans li1 e2)) (Nat.ne_of_gt (Nat.lt_trans li2 e2)) e3, e4, e5⟩
    rcases Z.zip with ⟨hz, a, b, hTO⟩ | ⟨T, f, oT, hz, hT, hST⟩
    · refine wpAny_bind (zipS_next hz (zs_done0 (by exact hh) D hz Z.ti hTO Z.a1 Z.a2 Z.b1 Z.b2 hx hy fun h' e hk he => ?_))
      obtain ⟨o, ho, hc⟩ := he
      exact ⟨⟨o, e, rfl, ho, hc⟩, wpAny_pure (fin h' hk)⟩
    · refine wpAny_bind (zipS_next hz (zs_done (by exact hh) D hz hT Z.ti Z.a1 Z.a2 Z.b1 Z.b2 hx hy fun h' e hk he => ?_))
      obtain ⟨o, ho, hc⟩ := he
      exact ⟨⟨o, e, rfl, ho, hc⟩, wpAny_pure (fin h' fun c o c1 _ c3 c4 x => hk c o c1 c3 c4 x)⟩
  | succ k ih =>
    intro i s acc hk hi Z hR
    have hlt1 : i < xs.size := by omega
    have hx : xs[i]? = some xs[i] := Array.getElem?_eq_getElem hlt1
    have hy : ys[i]? = some (ys[i]'(by omega)) := Array.getElem?_eq_getElem (by omega)
    refine codeAny_builtin F.entry_extend_loop ?_
    rw [Around.under_plainId F.plain_extend_loop _]
    show wpAny _ A.in1 (pyNext (.ref z) >>= _) _ _ s
    obtain ⟨c, hc⟩ := Z.lst
    have hS : S < s.heap.objs.size := Heap.lt_size hc
    -- behind a draw
    have step : ∀ h', ((∃ T f oT, IsZipS h' z TI TO (rawInt (T : Addr)) (.bool f) ∧ h'.get? T = some oT ∧ S < T)) → h'.IsTupleIter i1 l1 (i + 1) → h'.IsTupleIter i2 l2 (i + 1) → IsPair h' s.heap.objs.size xs[i] (ys[i]'(by omega)) →
        (∀ c o, c ≠ z → c ≠ TO → c ≠ i1 → c ≠ i2 → s.heap.get? c = some o → h'.get? c = some o) →
        wpAny (model prog w) A.in1 (updateSeq S (·.push (.ref s.heap.objs.size)) >>= fun _ => again (.builtin "list.extend.loop" ⟨[.ref S, .ref z, res], []⟩)) (fun fin s' => match fin with | .done f => R (.ok f) s' | .again c' => c'.quiet = true ∧ codeAny (model prog w) A c' R s') (fun e s' => R (.error e) s') { s with heap := h' } := by
      intro h' hz' ha1 ha2 hp hk'
      have hc' := hk' _ _ (Nat.ne_of_gt lz) (Nat.ne_of_gt lTO) (Nat.ne_of_gt li1) (Nat.ne_of_gt li2) hc
      refine wpAny_bind ?_
      refine wpAny_updateSeq hc' rfl ?_ (by rw [Z.sz]; omega) (by show (acc.push _).size ≤ sizeLine + 1; rw [Array.size_push, Z.sz]; omega)
      have oth : ∀ b o, b ≠ S → h'.get? b = some o → (h'.update S (Obj.mapSeq (·.push (Value.ref s.heap.objs.size)))).get? b = some o := fun b o hb e => (Heap.get?_update_other _ _ (Ne.symm hb)).trans e
      have prs' : ∀ (j : Nat) u, (acc.push (Value.ref s.heap.objs.size))[j]? = some u → ∃ (T : Addr) (x y : Value), u = .ref T ∧ S < T ∧ IsPair (h'.update S (Obj.mapSeq (·.push (Value.ref s.heap.objs.size)))) T x y ∧ xs[j]? = some x ∧ ys[j]? = some y := fun j u hj => by
        rw [Array.getElem?_push] at hj
        split at hj
        · rename_i e
          cases hj
          rw [Z.sz] at e
          subst e
          exact ⟨_, _, _, rfl, hS, oth _ _ (Nat.ne_of_gt hS) hp, hx, hy⟩
        · obtain ⟨T, x, y, e1, e2, e3, e4, e5⟩ := Z.prs j u hj
          exact ⟨T, x, y, e1, e2, oth _ _ (Nat.ne_of_gt e2) (hk' _ _ (Nat.ne_of_gt (Nat.lt_trans lz e2)) (Nat.ne_of_gt (Nat.lt_trans lTO e2)) (Nat.ne_of_gt (Nat.lt_trans li1 e2)) (Nat.ne_of_gt (Nat.lt_trans li2 e2)) e3), e4, e5⟩
      have old' : ∀ (j : Nat), acc[j]? ≠ some (.ref s.heap.objs.size) := fun j e => by
        obtain ⟨T, x, y, e1, e2, e3, _⟩ := Z.prs j _ e
        cases e1
        exact absurd (Heap.lt_size e3) (Nat.lt_irrefl _)
      have inj' : ∀ (j k : Nat) (T : Addr), (acc.push (Value.ref s.heap.objs.size))[j]? = some (.ref T) → (acc.push (Value.ref s.heap.objs.size))[k]? = some (.ref T) → j = k := fun j k T h1 h2 => by
        rw [Array.getElem?_push] at h1 h2
        split at h1 <;> split at h2
        · omega
        · cases h1; exact absurd h2 (old' k)
        · cases h2; exact absurd h1 (old' j)
        · exact Z.inj j k T h1 h2
      refine wpAny_pure ⟨plainId_quiet F.plain_extend_loop _, ih (i + 1) _ (acc.push (.ref s.heap.objs.size)) (by omega) hlt1 ⟨⟨_, Heap.get?_update_self _ hc' rfl⟩, .inr ?_, ?_, ?_, ?_, ?_, ?_, by rw [Array.size_push, Z.sz], prs', inj', ?_⟩ fun h'' acc'' ze => hR h'' acc'' ze⟩
      · obtain ⟨T, f, oT, e1, e2, e3⟩ := hz'
        exact ⟨T, f, oT, oth _ _ (Nat.ne_of_lt lz) e1, oth _ _ (Nat.ne_of_gt e3) e2, e3⟩
      · exact oth _ _ (Nat.ne_of_lt lTI) (hk' _ _ D.TIz D.TITO D.TIi1 D.TIi2 Z.ti)
      · exact ha1.at fun o e => oth _ o (Nat.ne_of_lt li1) e
      · exact ha2.at fun o e => oth _ o (Nat.ne_of_lt li2) e
      · exact Z.b1.at fun o e => oth _ o (Nat.ne_of_lt ll1) (hk' _ o D.l1z D.l1TO D.l1i1 D.l1i2 e)
      · exact Z.b2.at fun o e => oth _ o (Nat.ne_of_lt ll2) (hk' _ o D.l2z D.l2TO D.l2i1 D.l2i2 e)
      · exact fun b o c1 c2 c3 c4 e => oth _ _ (fun q => hold o (q ▸ e)) (hk' _ _ c1 c2 c3 c4 (Z.old b o c1 c2 c3 c4 e))
    rcases Z.zip with ⟨hz, a, b, hTO⟩ | ⟨T, f, oT, hz, hT, hST⟩
    · refine wpAny_bind (zipS_next hz (wpAny_mono (zs_first D hz Z.ti hTO Z.a1 Z.a2 Z.b1 Z.b2 hx hy fun h' e1 e2 e3 e4 e5 e6 e7 => ?_) (fun fin s' hq => hq) fun _ _ q => q))
      exact step h' ⟨_, _, _, e1, e5, hS⟩ e3 e4 e5 e7
    · refine wpAny_bind (zipS_next hz (wpAny_mono (zs_next D hz hT Z.ti Z.a1 Z.a2 Z.b1 Z.b2 hx hy fun h' e1 e3 e4 e5 e6 e7 => ?_) (fun fin s' hq => hq) fun _ _ q => q))
      exact step h' ⟨_, _, _, e1, e7 _ _ (Nat.ne_of_gt (Nat.lt_trans lz hST)) (Nat.ne_of_gt (Nat.lt_trans li1 hST)) (Nat.ne_of_gt (Nat.lt_trans li2 hST)) hT, hST⟩ e3 e4 e5 fun c o c1 _ c3 c4 e => e7 c o c1 c3 c4 e
end
end Kv

set_option Elab.async false
set_option linter.all false
set_option maxRecDepth 100000
set_option maxHeartbeats 4000000
set_option autoImplicit false
/-! Kv, part Q: list(zip(a, b, strict=True)), the call and the rule. -/
namespace Kv
open PySem PySem.Spec L2
variable [Tbl]
theorem zip_no_len : typeLookup (.type "zip") "__len__" = pure none := by rw [typeLookup_type, builtinLookup_eq_fast]; kernel_rfl
theorem zip_no_hint : typeLookup (.type "zip") "__length_hint__" = pure none := by rw [typeLookup_type, builtinLookup_eq_fast]; kernel_rfl
section
variable {prog : Program} {w : World} {A : Around} {E : Value → Shared → Prop} {s : Shared} {z TI TO i1 i2 l1 l2 : Addr} {xs ys : Array Value}
theorem zipS_iter {f0 f1 : Value} {Q : Value → Shared → Prop} (hz : IsZipS s.heap z TI TO f0 f1) (h : Q (.ref z) s) : wpAny (model prog w) A (pyIter (.ref z)) Q E s := by
  have hT : s.TypeIs (.ref z) "zip" := ⟨_, hz, rfl⟩
  refine wpAny_pyIter_slot hT F.slot_zip_iter (wpAny_call_entry F.slot_zip_iter hT F.entry_zip_iter ?_ (F.args_zip_iter_1 _))
  show wpAny _ _ (ret (.ref z)) _ _ s
  exact wpAny_pure ⟨_, rfl, "zip", _, hT, F.slot_zip_next.lookup, h⟩
theorem call_listZ {Q : Value → Shared → Prop} (hh : A.handled = none) (D : ZipApart z TI TO i1 i2 l1 l2) (hz : IsZipS s.heap z TI TO .none (.bool false)) (hTO : ∃ a b, IsPair s.heap TO a b) (hTI : IsPair s.heap TI (.ref i1) (.ref i2))
    (h1 : s.heap.IsTupleIter i1 l1 0) (h2 : s.heap.IsTupleIter i2 l2 0) (hl1 : s.heap.IsTuple l1 xs) (hl2 : s.heap.IsTuple l2 ys) (hxy : xs.size = ys.size) (hn : xs.size ≤ sizeLine)
    (hQ : ∀ h' acc, ZE z TO i1 i2 s.heap.objs.size xs ys s.heap acc h' → Q (.ref s.heap.objs.size) { s with heap := h' }) : wpAny (model prog w) A (call (.type "list") [.ref z]) Q E s := by
  have lt : ∀ b ∈ [z, TI, TO, i1, i2, l1, l2], b < s.heap.objs.size := fun b hb => by
    simp only [List.mem_cons, List.not_mem_nil, or_false] at hb
    obtain ⟨a, c, hTO⟩ := hTO
    rcases hb with rfl | rfl | rfl | rfl | rfl | rfl | rfl
    · exact Heap.lt_size hz
    · exact Heap.lt_size hTI
    · exact Heap.lt_size hTO
    · obtain ⟨_, e, _⟩ := h1; exact Heap.lt_size e
    · obtain ⟨_, e, _⟩ := h2; exact Heap.lt_size e
    · obtain ⟨_, e, _⟩ := hl1; exact Heap.lt_size e
    · obtain ⟨_, e, _⟩ := hl2; exact Heap.lt_size e
  refine callType_codes (Q₁ := fun obj s₁ => obj = .ref s.heap.objs.size ∧ s₁ = { s with heap := s.heap.push { cls := .type "list", data := .seq #[] } }) F.called_list (F.typeCall_list_1 _) F.entry_list_init
    (code_list_new _ ⟨rfl, rfl⟩) fun obj s₁ h₁ => ?_
  obtain ⟨rfl, rfl⟩ := h₁
  have hS : (s.heap.push { cls := .type "list", data := .seq #[] }).get? s.heap.objs.size = some { cls := .type "list", data := .seq #[] } := Heap.get?_push_size _ rfl
  refine ⟨⟨_, hS, rfl⟩, F.args_list_init_2 _ _, ?_⟩
  show wpAny _ A.in1.in1 (do let old ← Builtin.List.listItems (.ref s.heap.objs.size); Builtin.List.listUpdate (.ref s.heap.objs.size) (fun _ => #[]); letGo old.toList.reverse; Builtin.List.listExtendWith (.ref s.heap.objs.size) (.ref z) .none) _ _ _
  refine wpAny_bind ?_
  unfold Builtin.List.listItems
  refine wpAny_bind (wpAny_seqItems hS rfl (wpAny_pure ?_))
  show wpAny _ A.in1.in1 (updateSeq s.heap.objs.size (fun _ => #[]) >>= fun _ => letGo (#[] : Array Value).toList.reverse >>= fun _ => Builtin.List.listExtendWith (.ref s.heap.objs.size) (.ref z) .none) _ _ _
  refine wpAny_bind (wpAny_updateSeq hS rfl ?_)
  have hS2 := Heap.get?_update_self (Obj.mapSeq (fun _ => (#[] : Array Value))) hS rfl
  refine wpAny_bind (wpAny_letGo ?_)
  unfold Builtin.List.listExtendWith
  have up : ∀ (h : Heap) (f : Obj → Obj), (∀ b o, s.heap.get? b = some o → h.get? b = some o) → ∀ b o, s.heap.get? b = some o → (h.update s.heap.objs.size f).get? b = some o := fun h f q b o e =>
    (Heap.get?_update_other _ _ (Ne.symm (Nat.ne_of_lt (Heap.lt_size e)))).trans (q b o e)
  have k1 : ∀ b o, s.heap.get? b = some o → (s.heap.push { cls := .type "list", data := .seq #[] }).get? b = some o := fun b o e => Heap.get?_push_of_some _ e
  have k2 := up _ (Obj.mapSeq (fun _ => (#[] : Array Value))) k1
  have zty : ∀ {h : Heap} {t : Nat}, (∀ b o, s.heap.get? b = some o → h.get? b = some o) → ({ s with heap := h } : Shared).TypeIs (.ref z) "zip" := fun {h t} q => ⟨_, q _ _ hz, rfl⟩
  refine wpAny_bind (wpAny_typeOf (zty (t := 0) k2) ?_)
  have e1 : Builtin.List.listSameRef (.ref s.heap.objs.size) (.ref z) = false := by
    have : s.heap.objs.size ≠ z := Nat.ne_of_gt (lt z (by simp))
    simp [Builtin.List.listSameRef, this]
  have e2 : (Value.type "zip" == Value.type "list") = false := by decide
  have e3 : (Value.type "zip" == Value.type "tuple") = false := by decide
  simp only [e1, e2, e3, Bool.or_false, Bool.false_eq_true, if_false]
  refine wpAny_bind (zipS_iter (s := { s with heap := _ }) (k2 _ _ hz) ?_)
  refine wpAny_bind (wpAny_holding ?_)
  unfold Builtin.List.listLengthHint
  refine wpAny_bind (wpAny_specialOf (zty (t := 0) k2) zip_no_len ?_)
  show wpAny _ A.in1.in1 (specialOf (Value.ref z) (Str.ofString "__length_hint__") >>= _) _ _ _
  refine wpAny_bind (wpAny_specialOf (zty (t := 0) k2) zip_no_hint ?_)
  refine wpAny_pure ?_
  show wpAny _ A.in1.in1 (rule "list.extend.makes-room" >>= fun _ => Builtin.List.listTouch (.ref s.heap.objs.size) >>= fun _ =>
    again (.builtin "list.extend.loop" ⟨[.ref s.heap.objs.size, .ref z, .none], []⟩)) _ _ _
  refine wpAny_bind (wpAny_rule ?_)
  refine wpAny_bind ?_
  show wpAny _ A.in1.in1 (updateSeq s.heap.objs.size (·.push .none) >>= fun _ => updateSeq s.heap.objs.size (·.pop)) _ _ _
  refine wpAny_bind (wpAny_updateSeq hS2 rfl ?_)
  have hS3 := Heap.get?_update_self (Obj.mapSeq (·.push Value.none)) hS2 rfl
  refine wpAny_updateSeq (hz := by seq_fits) hS3 rfl ?_
  have hS4 := Heap.get?_update_self (Obj.mapSeq (·.pop)) hS3 rfl
  have k4 := up _ (Obj.mapSeq (·.pop)) (up _ (Obj.mapSeq (·.push Value.none)) k2)
  refine wpAny_pure ⟨plainId_quiet F.plain_extend_loop _, ?_⟩
  refine zl_loop (A := A.in1) (xs := xs) (ys := ys) (by exact hh) D lt (fun o e => absurd (Heap.lt_size e) (Nat.lt_irrefl _)) hxy hn .none xs.size 0 _ #[] (by omega) (Nat.zero_le _)
    ⟨⟨_, hS4⟩, .inl ⟨k4 _ _ hz, ?_⟩, k4 _ _ hTI, h1.at fun o e => k4 _ o e, h2.at fun o e => k4 _ o e, hl1.at fun o e => k4 _ o e, hl2.at fun o e => k4 _ o e, rfl, fun j v e => by simp at e, fun j k T e => by simp at e, fun b o _ _ _ _ e => k4 b o e⟩ fun h' acc ze => ?_
  · obtain ⟨a, b, hTO⟩ := hTO
    exact ⟨a, b, k4 _ _ hTO⟩
  · exact ⟨rfl, hQ h' acc ze⟩
end
abbrev zh1 (h : Heap) (l1 : Addr) : Heap := h.push { cls := .type "tuple_iterator", data := .fields #[.ref l1, .int 0 0] }
abbrev zh2 (h : Heap) (l1 l2 : Addr) : Heap := (zh1 h l1).push { cls := .type "tuple_iterator", data := .fields #[.ref l2, .int 0 0] }
abbrev zh3 (h : Heap) (l1 l2 : Addr) : Heap := (zh2 h l1 l2).push { cls := .type "tuple", data := .seq #[.ref h.objs.size, .ref (zh1 h l1).objs.size] }
abbrev zh4 (h : Heap) (l1 l2 : Addr) : Heap := (zh3 h l1 l2).push { cls := .type "tuple", data := .seq #[.none, .none] }
abbrev zh5 (h : Heap) (l1 l2 : Addr) : Heap := (zh4 h l1 l2).push { cls := .type "zip", data := .fields #[.none, .bool false, .bool true, .ref (zh2 h l1 l2).objs.size, .ref (zh3 h l1 l2).objs.size] }
namespace F
theorem typeCall_zipS (a b c : Value) : checkTypeCall "zip" ⟨[a, b], [(Str.ofString "strict", c)]⟩ = pure () := by kernel_rfl
theorem newCall_zipS (a b c : Value) : checkBuiltinCall "zip.__new__" ⟨[.type "zip", a, b], [(Str.ofString "strict", c)]⟩ = pure () := by kernel_rfl
theorem args_object_init_strict (obj a b c : Value) : argsOk "object.__init__" ⟨[obj, a, b], [(Str.ofString "strict", c)]⟩ := by unfold argsOk; kernel_rfl
end F
theorem meets_zipS_new (l1 l2 : Addr) (xs ys : Array Value) :
    Meets (Builtin.«zip.__new__» ⟨[.type "zip", .ref l1, .ref l2], [(Str.ofString "strict", .bool true)]⟩) (fun _ R s => s.heap.IsTuple l1 xs ∧ s.heap.IsTuple l2 ys ∧
      R (.ok (.ret (.ref (zh4 s.heap l1 l2).objs.size))) { s with heap := zh5 s.heap l1 l2 }) :=
  .of_wp fun prog w A R s h => by
    obtain ⟨hp, g, d, tk, os⟩ := s; obtain ⟨hl1, hl2, h⟩ := h
    have hsub := sub_zip
    have hL1 : Heap.IsTuple (Shared.heap ⟨hp, g, d, tk, os⟩) l1 xs := hl1
    have hL2 : Heap.IsTuple (Shared.heap ⟨hp.push { cls := .type "tuple_iterator", data := .fields #[.ref l1, .int 0 0] }, g, d, tk, os⟩) l2 ys := Heap.IsTuple.push hl2 _
    have e2 : (Str.ofString "strict" != ("strict" : Str)) = false := by decide +kernel
    wp_walk using wpAny_pyIter_tuple hL1, wpAny_pyIter_tuple hL2
    exact ⟨_, rfl, h⟩
end Kv

set_option Elab.async false
set_option linter.all false
set_option maxRecDepth 100000
set_option maxHeartbeats 4000000
set_option autoImplicit false
/-! Kv, part R: list(zip(a, b, strict=True)) as a rule. -/
namespace Kv
open PySem PySem.Spec L2
variable [Tbl]
section
variable {prog : Program} {w : World} {A : Around} {E : Value → Shared → Prop} {s : Shared}
theorem call_zipS {l1 l2 : Addr} {xs ys : Array Value} {Q : Value → Shared → Prop} (hl1 : s.heap.IsTuple l1 xs) (hl2 : s.heap.IsTuple l2 ys)
    (h : ∀ h', IsZipS h' (s.heap.objs.size + 4) (s.heap.objs.size + 2) (s.heap.objs.size + 3) .none (.bool false) → IsPair h' (s.heap.objs.size + 2) (.ref s.heap.objs.size) (.ref (s.heap.objs.size + 1)) →
      IsPair h' (s.heap.objs.size + 3) .none .none → h'.IsTupleIter s.heap.objs.size l1 0 → h'.IsTupleIter (s.heap.objs.size + 1) l2 0 → h'.objs.size = s.heap.objs.size + 5 →
      (∀ c o, s.heap.get? c = some o → h'.get? c = some o) → Q (.ref (s.heap.objs.size + 4)) { s with heap := h' }) :
    wpAny (model prog w) A (call (.type "zip") [.ref l1, .ref l2] [(Str.ofString "strict", .bool true)]) Q E s := by
  refine callType_newKw PySem.F.called_zip (by decide) (F.typeCall_zipS _ _ _) (F.newCall_zipS _ _ _) (fun obj => F.args_object_init_strict obj _ _ _) PySem.F.entry_zip_new
    (meets_zipS_new l1 l2 xs ys) ⟨hl1, hl2, ?_⟩
  have z1 : (zh1 s.heap l1).objs.size = s.heap.objs.size + 1 := Heap.size_push ..
  have z2 : (zh2 s.heap l1 l2).objs.size = s.heap.objs.size + 2 := by rw [Heap.size_push, z1]
  have z3 : (zh3 s.heap l1 l2).objs.size = s.heap.objs.size + 3 := by rw [Heap.size_push, z2]
  have z4 : (zh4 s.heap l1 l2).objs.size = s.heap.objs.size + 4 := by rw [Heap.size_push, z3]
  have z5 : (zh5 s.heap l1 l2).objs.size = s.heap.objs.size + 5 := by rw [Heap.size_push, z4]
  have g5 : (zh5 s.heap l1 l2).get? (zh4 s.heap l1 l2).objs.size = some _ := Heap.get?_push_size _ rfl
  have g4 : (zh5 s.heap l1 l2).get? (zh3 s.heap l1 l2).objs.size = some _ := Heap.get?_push_of_some _ (Heap.get?_push_size _ rfl)
  have g3 : (zh5 s.heap l1 l2).get? (zh2 s.heap l1 l2).objs.size = some _ := Heap.get?_push_of_some _ (Heap.get?_push_of_some _ (Heap.get?_push_size _ rfl))
  have g2 : (zh5 s.heap l1 l2).get? (zh1 s.heap l1).objs.size = some _ := Heap.get?_push_of_some _ (Heap.get?_push_of_some _ (Heap.get?_push_of_some _ (Heap.get?_push_size _ rfl)))
  have g1 : (zh5 s.heap l1 l2).get? s.heap.objs.size = some _ := Heap.get?_push_of_some _ (Heap.get?_push_of_some _ (Heap.get?_push_of_some _ (Heap.get?_push_of_some _ (Heap.get?_push_size _ rfl))))
  show _ ∧ _
  rw [z2, z3, z4] at g5
  rw [z1, z2] at g3
  rw [z3] at g4
  rw [z1] at g2
  rw [z4]
  exact ⟨⟨_, g5, rfl⟩, h _ g5 g3 g4 ⟨_, g1, rfl, rfl⟩ ⟨_, g2, rfl, rfl⟩ z5 fun c o x =>
    Heap.get?_push_of_some _ (Heap.get?_push_of_some _ (Heap.get?_push_of_some _ (Heap.get?_push_of_some _ (Heap.get?_push_of_some _ x))))⟩
theorem callWith_kwT {M : Model} {env : Env} {pos : Pos} {T : String} {e : Expr} {rest : List Expr} {kws : List Keyword} {Q : Value → Shared → Prop}
    (h : wpAny M A (spliced (backTo pos (starEach (e :: rest) env))) (fun vs s₁ => wpAny M A (evalAll ((backToKw pos (keywordEach kws env)).map (·.2)))
      (fun kvs s₂ => wpAny M A (call (.type T) vs (((backToKw pos (keywordEach kws env)).filterMap (·.1)).zip kvs)) Q E s₂) E s₁) E s)
    (he : backTo pos (starEach (e :: rest) env) = (false, eval e env) :: backTo pos (starEach rest env) := by rfl)
    (hplain : (backTo pos (starEach (e :: rest) env)).any (·.1) = false := by rfl)
    (hall : (backToKw pos (keywordEach kws env)).all (·.1.isSome) = true := by rfl)
    (hkw : (backToKw pos (keywordEach kws env)).any (·.1.isNone) = false := by rfl) :
    wpAny M A (callWith pos (.type T) [] (backTo pos (starEach (e :: rest) env)) (backToKw pos (keywordEach kws env))) Q E s := by
  have h' : wpAny M A (evalArgs (.type T) true (backTo pos (starEach (e :: rest) env)) (backToKw pos (keywordEach kws env))) (fun a s₁ => wpAny M A (call (.type T) ([] ++ a.pos) a.kw) Q E s₁) E s := by
    rw [he] at h ⊢
    exact PyProof.Rows.evalArgs_kwB hall h
  unfold callWith
  refine wpAny_bind (wpAny_holding (wpAny_mono h' (fun a s₁ h₁ => wpAny_bind (wpAny_standAt ?_)) fun _ _ x => x))
  simp only [hplain, hkw, Bool.or_false]
  refine wpAny_bind (wpAny_pure ?_)
  exact wpAny_bind (wpAny_mono h₁ (fun r s₂ hr => wpAny_bind (wpAny_holding (wpAny_point (wpAny_pure hr)))) fun _ _ x => x)
end
/-- new pairs, one by one -/
def mkPairs : List (V × V) → Hp → (List Addr → Hp → Prop) → Prop
  | [], H, k => k [] H
  | (x, y) :: r, H, k => ∀ T o, H T = none → o.dict = none → mkPairs r (upd H T (.frz o (.tup [x, y]))) fun ts H' => k (T :: ts) H'
theorem mkPairs_at {h : Heap} {P : Program} {w : World} : ∀ {ps : List (V × V)} {H : Hp} {k : List Addr → Hp → Prop} {ts : List Addr}, mkPairs ps H k → ts.length = ps.length → ts.Nodup → (∀ T ∈ ts, H T = none) →
    (∀ (j : Nat) T x y, ts[j]? = some T → ps[j]? = some (x, y) → ∃ u v, IsPair h T u v ∧ RelV x u ∧ RelV y v) →
    ∃ H', k ts H' ∧ (∀ b o, H b = some o → H' b = some o) ∧ ∀ b o, H' b = some o → H b = some o ∨ (b ∈ ts ∧ ∀ H2, ObjOk P w H2 h b o)
  | [], H, k, [], hm, _, _, _, _ => ⟨H, hm, fun _ _ e => e, fun _ _ e => .inl e⟩
  | (x, y) :: r, H, k, T :: ts, hm, hl, hd, hf, hp => by
    obtain ⟨u, v, p1, p2, p3⟩ := hp 0 T x y rfl rfl
    obtain ⟨d1, d2⟩ := List.nodup_cons.mp hd
    have hT : H T = none := hf T List.mem_cons_self
    obtain ⟨H', g1, g2, g3⟩ := mkPairs_at (P := P) (w := w) (ts := ts) (hm T { cls := .type "tuple", data := .seq #[u, v] } hT rfl) (by simpa using hl) d2 (fun T' h' => by
      have hne : T' ≠ T := fun e => d1 (by rw [← e]; exact h')
      rw [upd_ne hne]
      exact hf T' (List.mem_cons_of_mem _ h')) fun j T' x' y' a b => hp (j + 1) T' x' y' (by simpa using a) (by simpa using b)
    refine ⟨H', g1, fun b o e => g2 b o (by rw [upd_ne (ne_of_none e hT)]; exact e), fun b o e => ?_⟩
    rcases g3 b o e with q | ⟨q1, q2⟩
    · by_cases hb : b = T
      · subst hb
        rw [upd_same] at q
        cases q
        exact .inr ⟨List.mem_cons_self, fun H2 => ⟨p1, by show 2 ≤ sizeLine; decide, [u, v], .cons p2 (.cons p3 .nil), ⟨_, p1, rfl, _, rfl⟩⟩⟩
      · rw [upd_ne hb] at q
        exact .inl q
    · exact .inr ⟨List.mem_cons_of_mem _ q1, q2⟩
  | [], _, _, _ :: _, _, hl, _, _, _ => by simp at hl
  | _ :: _, _, _, [], _, hl, _, _, _ => by simp at hl
section
variable {X : Cx} {B : List Nat} {β : Base} {W : XK} {a b : Expr} {f h : X1} {p pos : Pos}
theorem Inv.tracks {pins : List (Addr × Obj)} {σ : St} {H H' : Hp} {s : Shared} {h' : Heap} {t' : Nat} (I : L2.Inv X pins σ H s) (k : ∀ b u, s.heap.get? b = some u → h'.get? b = some u) (ext : ∀ b o, H b = some o → H' b = some o)
    (new : ∀ b o, H' b = some o → H b = some o ∨ (s.heap.objs.size ≤ b ∧ ObjOk X.prog X.w H' h' b o)) : L2.Inv X pins σ H' { s with heap := h', toks := t' } := by
  have fre : ∀ b u, s.heap.get? b = some u → H b = none → H' b = none := fun b u e n => by
    cases q : H' b with
    | none => rfl
    | some o =>
      rcases new b o q with z | ⟨z, _⟩
      · rw [n] at z; cases z
      · exact absurd (Heap.lt_size e) (Nat.not_lt.mpr z)
  refine I.un ⟨fun b o e _ _ _ => k b o e, fun b o e _ _ _ => ⟨o.slots, k b o e⟩, fun b o e n _ => fre b o e n, fun b o e _ => ⟨o, k b o e⟩, fun b xs e => ext b _ e, fun b o u e => ext b _ e, fun b ps e => ⟨#[], by rw [ext b _ e]; simp⟩⟩ fun b o e => ?_
  rcases new b o e with z | ⟨_, z⟩
  · exact (I.hok b o z).stay (fun c u _ q => k c u q) (fun c q => ext c _ q) fun c xs q => ext c _ q
  · exact z
theorem pe_lzip {ta : TA} {p2 pos2 cp kp : Pos} {j : Nat} (hc : X.calm = true) (hm : X.mg "list" = none) (hmz : X.mg "zip" = none) (ha : PA X [a, b] ta) (hg : Gl X "list" := by rfl) (hgz : Gl X "zip" := by rfl)
    (na : starEach [.Call (.Name "zip" p2) [a, b] [⟨some "strict", .Constant (.bool true) j cp, kp⟩] pos2] X.env = (false, eval (.Call (.Name "zip" p2) [a, b] [⟨some "strict", .Constant (.bool true) j cp, kp⟩] pos2) X.env) :: starEach [] X.env := by rfl)
    (hs : starEach [a, b] X.env = (false, eval a X.env) :: starEach [b] X.env := by rfl) (hpl : (backTo pos2 (starEach [a, b] X.env)).any (·.1) = false := by rfl) :
    PE X (.Call (.Name "list" p) [.Call (.Name "zip" p2) [a, b] [⟨some "strict", .Constant (.bool true) j cp, kp⟩] pos2] [] pos) (fun σ H Q => ta σ H fun vs H1 => ∃ l1 l2 xs ys, vs = [V.ref l1, V.ref l2] ∧ SqT X.K H1 l1 xs ∧ SqT X.K H1 l2 ys ∧ xs.length = ys.length ∧
      mkPairs (xs.zip ys) H1 fun ts H2 => ∀ S, H2 S = none → Q (.ref S) (upd H2 S (.lst (ts.map V.ref)))) := by
  refine ⟨fun pins s σ H Q I hq => ?_⟩
  refine PyProof.Rows.Call_ (ld_blt I hg hm PyProof.Rows.boot_list (PyProof.Rows.callWith_type1 (PyProof.Rows.args_cons ?_ na) na))
  refine wpAny_Call_Name_kw (ld_blt I hgz hmz PyProof.Rows.boot_zip (callWith_kwT (thn (ha.run pos2 pins s σ H _ I hq) fun us s1 ⟨vs, H1, I1, r1, q1⟩ =>
    thn ((pk_cons pe_bl pk_nil).run pos2 pins s1 σ H1 (fun zs H2 => zs = [V.bl true] ∧ H2 = H1) I1 ⟨rfl, rfl⟩) fun ws s2 ⟨zs, H2, I2, rz, ez, eH⟩ => ?_) (by rw [hs]; rfl) hpl))
  subst ez eH
  obtain ⟨l1, l2, xs, ys, rfl, q2, q3, hxy, q⟩ := q1
  obtain ⟨u1, rfl, ru1⟩ := vals1 rz
  cases ru1
  cases r1 with
  | cons ra r1 =>
    cases r1 with
    | cons rb r1 =>
      cases r1
      cases ra
      cases rb
      show wpAny _ _ (call (.type "zip") [.ref l1, .ref l2] [(Str.ofString "strict", .bool true)]) _ _ _
      obtain ⟨its, rv, t1, hz1⟩ := I2.tuple q2
      obtain ⟨its2, rv2, t2, _⟩ := I2.tuple q3
      replace t1 : s2.heap.IsTuple l1 its.toArray := t1
      replace t2 : s2.heap.IsTuple l2 its2.toArray := t2
      have n1 := rv.length
      have n2 := rv2.length
      have lt1 : l1 < s2.heap.objs.size := by obtain ⟨_, e, _⟩ := t1; exact Heap.lt_size e
      have lt2 : l2 < s2.heap.objs.size := by obtain ⟨_, e, _⟩ := t2; exact Heap.lt_size e
      refine call_zipS t1 t2 fun h' hz hTI hTO h1 h2 hsz hk => PyProof.Rows.args_nil ?_
      refine call_listZ (s := { s2 with heap := h' }) (xs := its.toArray) (ys := its2.toArray) (by exact I.ok.hd hc) (PySem.W.ktu_apart _ _ _ lt1 lt2) hz ⟨_, _, hTO⟩ hTI h1 h2 (t1.at fun o e => hk _ o e) (t2.at fun o e => hk _ o e) (by simp only [List.size_toArray]; omega) (by simp only [List.size_toArray]; omega) fun h'' acc ze => ?_
      have hS : s2.heap.objs.size ≤ h'.objs.size := by rw [hsz]; exact Nat.le_add_right _ _
      have keep : ∀ c o, s2.heap.get? c = some o → h''.get? c = some o := fun c o e => by
        have lc := Heap.lt_size e
        exact ze.old c o (Nat.ne_of_lt (Nat.lt_of_lt_of_le lc (Nat.le_add_right _ _))) (Nat.ne_of_lt (Nat.lt_of_lt_of_le lc (Nat.le_add_right _ _))) (Nat.ne_of_lt lc) (Nat.ne_of_lt (Nat.lt_of_lt_of_le lc (Nat.le_add_right _ _))) (hk c o e)
      let ad : Value → Addr := fun v => match v with | .ref a => a | _ => 0
      have hacc : acc.toList = (acc.toList.map ad).map Value.ref := by
        rw [List.map_map]
        refine (List.map_id _).symm.trans (List.map_congr_left fun v hv => ?_)
        obtain ⟨j, hj, e⟩ := List.getElem_of_mem hv
        obtain ⟨T, _, _, e1, _⟩ := ze.prs j v (by rw [← e, Array.getElem?_eq_getElem (by simpa using hj)]; simp)
        rw [e1]; rfl
      have get : ∀ (j : Nat) (T : Addr), (acc.toList.map ad)[j]? = some T → acc[j]? = some (.ref T) := fun j T e => by
        have : acc.toList[j]? = some (.ref T) := by rw [hacc, List.getElem?_map, e]; rfl
        simpa using this
      have big : ∀ T ∈ acc.toList.map ad, h'.objs.size < T := fun T hT => by
        obtain ⟨j, e⟩ := List.mem_iff_getElem?.mp hT
        obtain ⟨T', _, _, e1, e2, _⟩ := ze.prs j _ (get j T e)
        cases e1; exact e2
      have nd : (acc.toList.map ad).Nodup := by
        refine List.pairwise_iff_getElem.mpr fun i j hi hj hij e => ?_
        have h1 : (acc.toList.map ad)[j]? = some (acc.toList.map ad)[j] := List.getElem?_eq_getElem hj
        have h0 : (acc.toList.map ad)[i]? = some (acc.toList.map ad)[i] := List.getElem?_eq_getElem hi
        rw [e] at h0
        exact absurd (ze.inj i j _ (get i _ h0) (get j _ h1)) (Nat.ne_of_lt hij)
      have len : (acc.toList.map ad).length = (xs.zip ys).length := by
        have := ze.sz
        simp only [List.length_map, Array.length_toList, List.length_zip]
        simp only [List.size_toArray] at this
        omega
      obtain ⟨H', g1, g2, g3⟩ := mkPairs_at (P := X.prog) (w := X.w) (h := h'') (ts := acc.toList.map ad) q len nd (fun T hT => I2.hok.fresh (Nat.le_of_lt (Nat.lt_of_le_of_lt hS (big T hT)))) fun j T x y a b => by
        obtain ⟨T', u, v, e1, _, e3, e4, e5⟩ := ze.prs j _ (get j T a)
        cases e1
        obtain ⟨b1, b2⟩ : xs[j]? = some x ∧ ys[j]? = some y := by
          rw [List.getElem?_zip_eq_some] at b; exact b
        obtain ⟨u', k1, k2⟩ := rv.get b1
        obtain ⟨v', k3, k4⟩ := rv2.get b2
        have : u = u' := by have : its[j]? = some u := by simpa using e4
                            rw [k1] at this; cases this; rfl
        subst this
        have : v = v' := by have : its2[j]? = some v := by simpa using e5
                            rw [k3] at this; cases this; rfl
        subst this
        exact ⟨u, v, e3, k2, k4⟩
      have hSn : H' h'.objs.size = none := by
        cases qq : H' h'.objs.size with
        | none => rfl
        | some o =>
          rcases g3 _ _ qq with z | ⟨z, _⟩
          · rw [I2.hok.fresh hS] at z; cases z
          · exact absurd (big _ z) (Nat.lt_irrefl _)
      have hs2n : H2 h'.objs.size = none := I2.hok.fresh hS
      obtain ⟨c, hc'⟩ := ze.lst
      have vl : Vals ((acc.toList.map ad).map V.ref) acc.toList := by
        have : ∀ l : List Addr, Vals (l.map V.ref) (l.map Value.ref) := fun l => by
          induction l with
          | nil => exact .nil
          | cons x l ih => exact .cons rfl ih
        have q := this (acc.toList.map ad)
        rw [← hacc] at q
        exact q
      have J : L2.Inv X pins σ (upd H' h'.objs.size (.lst ((acc.toList.map ad).map V.ref))) { s2 with heap := h'', toks := s2.toks } := by
        refine Inv.tracks (t' := s2.toks) (H' := upd H' h'.objs.size (.lst ((acc.toList.map ad).map V.ref))) I2 keep (fun b o e => ?_) (fun b o e => ?_)
        · rw [upd_ne (fun z => by rw [z, hs2n] at e; cases e)]
          exact g2 b o e
        · by_cases hb : b = h'.objs.size
          · subst hb
            rw [upd_same] at e
            cases e
            refine .inr ⟨hS, ?_, acc.toList, c, vl, by rw [Array.toArray_toList]; exact hc'⟩
            rw [List.length_map, len, List.length_zip]
            omega
          · rw [upd_ne hb] at e
            rcases g3 b o e with z | ⟨z1, z2⟩
            · exact .inl z
            · exact .inr ⟨Nat.le_of_lt (Nat.lt_of_le_of_lt hS (big b z1)), z2 _⟩
      exact ⟨.ref h'.objs.size, _, J, rfl, g1 _ hSn⟩
def zipP (xs ys : List P) : List P := (xs.zip ys).map fun q => .tup [q.1, q.2]
theorem Rel.mkPairs {K : PySem.W.Frag} {Γ : G} {stk : List E} {σ : SS} {svs : List V} : ∀ {xs ys : List P} {us ws : List V} {H : Hp} {k : List Addr → Hp → Prop}, Rel K β Γ stk σ svs H → RPs K H xs us → RPs K H ys ws →
    (∀ ts H', Rel K β Γ stk σ svs H' → RPs K H' (zipP xs ys) (ts.map V.ref) → Kp No H H' → k ts H') → Kv.mkPairs (us.zip ws) H k
  | [], ys, _, ws, H, k, r, .nil, h2, hk => by
    show k [] H
    exact hk [] H r (by unfold zipP; exact .nil) Kp.refl
  | x :: xs, [], _, _, H, k, r, .cons _ _, .nil, hk => by
    show k [] H
    exact hk [] H r (by unfold zipP; exact .nil) Kp.refl
  | x :: xs, y :: ys, v :: us, w :: ws, H, k, r, .cons h1 t1, .cons h2 t2, hk => by
    intro T o hT ho
    have kp : Kp No H (upd H T (.frz o (.tup [v, w]))) := kp_new hT
    refine Rel.mkPairs (r.grown hT) (t1.kp kp) (t2.kp kp) fun ts H' r' p' k' => hk (T :: ts) H' r' ?_ (kp.trans k')
    exact .cons (RP.kp k' (.tup (.inl ⟨o, upd_same, ho⟩) (.cons (h1.kp kp) (.cons (h2.kp kp) .nil)))) p'
def zipO : G → E → E → Rs E := fun Γ a b => match a, b with
  | .p (.tup xs), .p (.tup ys) => if xs.length = ys.length then .ok Γ (.o (.lst ((zipP xs ys).map .p))) else .bad
  | _, _ => .bad
theorem m_lzip {p2 pos2 cp kp : Pos} {j : Nat} (hc : X.calm = true) (hm : X.mg "list" = none) (hmz : X.mg "zip" = none) (ha : QE X B W a f) (hb : QE X B W b h) (hg : Gl X "list" := by rfl) (hgz : Gl X "zip" := by rfl)
    (na : starEach [.Call (.Name "zip" p2) [a, b] [⟨some "strict", .Constant (.bool true) j cp, kp⟩] pos2] X.env = (false, eval (.Call (.Name "zip" p2) [a, b] [⟨some "strict", .Constant (.bool true) j cp, kp⟩] pos2) X.env) :: starEach [] X.env := by rfl)
    (hs : starEach [a, b] X.env = (false, eval a X.env) :: starEach [b] X.env := by rfl) (hs2 : starEach [b] X.env = (false, eval b X.env) :: starEach [] X.env := by rfl) (hpl : (backTo pos2 (starEach [a, b] X.env)).any (·.1) = false := by rfl) :
    QE X B W (.Call (.Name "list" p) [.Call (.Name "zip" p2) [a, b] [⟨some "strict", .Constant (.bool true) j cp, kp⟩] pos2] [] pos) (e2 zipO f h) :=
  PE.imp (pe_lzip hc hm hmz (pa_cons ha (pa_cons hb pa_nil hs2) hs) hg hgz na hs hpl) fun σ H Q ⟨β, Γ, stk, svs, r, q⟩ => by
    refine ⟨β, Γ, stk, svs, r, Rs.sat_mono (Rs.sat_bind.1 q) (fun Γ1 x q1 H1 v r1 => ?_) fun _ z => z⟩
    refine ⟨β, Γ1, _, _, r1, Rs.sat_mono (Rs.sat_bind.1 q1) (fun Γ2 y q2 H2 w r2 => ?_) fun _ z => z⟩
    unfold zipO at q2
    split at q2
    · rename_i xs ys
      split at q2
      · rename_i hl
        obtain ⟨b, vs2, e2, k1, k2⟩ := r2.topP.tup_inv
        obtain ⟨a, vs1, e1, k3, k4⟩ := r2.popE.topP.tup_inv
        subst e1 e2
        refine ⟨a, b, vs1, vs2, rfl, k3.sq, k1.sq, by rw [← k2.length, ← k4.length]; exact hl, ?_⟩
        exact Rel.mkPairs r2.popE.popE k4 k2 fun ts H' r' p' _ S hS => q2 _ _ (r'.newLstP hS p')
      · exact q2.elim
    · exact q2.elim
end
end Kv

set_option Elab.async false
set_option linter.all false
set_option maxRecDepth 100000
set_option maxHeartbeats 4000000
set_option autoImplicit false
/-! Kv, part S: _law_told(lambda: e). -/
namespace Kv
open PySem PySem.Spec L2
variable [Tbl]
section
variable {K : PySem.W.Frag} {β : Base} {Γ : G} {stk : List E} {σ : SS} {svs : List V} {H H' : Hp}
/-- all but the tables stays -/
theorem Rel.extN (r : Rel K β Γ stk σ svs H) (e : LamX.ExtN H H') (t : LamX.Tabs Tbl.t H') : Rel K β Γ stk σ svs H' := by
  obtain ⟨M, N, T, h1, h2, h3, h4, h5⟩ := r.ex
  have kp : ∀ {F : AP}, (∀ a, F a → MutE H a) → Kp F H H' := fun hl => ⟨fun a o f q => e a o q ((hl a f).nt q), fun a xs q => e a _ q (fun _ z => by cases z), fun a o u q => e a _ q (fun _ z => by cases z)⟩
  have mv : ∀ a, MutE H a → MutE H' a := fun a h => by
    rcases h with ⟨x, h⟩ | ⟨x, h⟩
    · exact .inl ⟨x, e a _ h (fun _ z => by cases z)⟩
    · exact .inr ⟨x, e a _ h (fun _ z => by cases z)⟩
  refine ⟨⟨M, N, T, h1.kp (kp fun a z => z.elim (fun z => h5.live a (.inl z)) (h5.liveT a)), h2.kp (kp fun a z => z.elim (fun z => h5.live a (.inr z)) (h5.liveT a)), h3, h4, ?_⟩, r.prot⟩
  exact ⟨fun a o nt q f => e a o (h5.keep a o nt q f) nt, fun a z => h5.old a fun o nt q => z o nt (e a o q nt), h5.own, h5.shr, fun a z => mv a (h5.live a z), fun a z => mv a (h5.liveT a z), t⟩
/-- all slots are lent -/
def lent : G → G
  | [] => []
  | some (.o d) :: r => some (.s d) :: lent r
  | x :: r => x :: lent r
theorem RG.lent {T T0 M M' : AP} (lT : Le T T0) : ∀ {Γ : G} {σ : SS} {M : AP}, RG K H T Γ σ M → Le M T0 → RG K H T0 (Kv.lent Γ) σ No
  | _, _, _, .nil, _ => .nil
  | _, _, _, .hole r, l => .hole (RG.lent (M' := M') (M := M) lT r l)
  | some (.o d) :: _, _, _, .full hh r s a b, l => by
    cases hh with
    | o hh => exact .full (m := No) (.s (hh.mono (a.trans l))) (RG.lent (M' := M') (M := M) lT r (b.trans l)) Sep.no Le.no Le.rfl
  | some (.p x) :: _, _, _, .full hh r s a b, l => by
    cases hh with
    | p hh => exact .full (m := No) (.p hh) (RG.lent (M' := M') (M := M) lT r (b.trans l)) Sep.no Le.no Le.rfl
  | some (.s d) :: _, _, _, .full hh r s a b, l => by
    cases hh with
    | s hh => exact .full (m := No) (.s (hh.mono lT)) (RG.lent (M' := M') (M := M) lT r (b.trans l)) Sep.no Le.no Le.rfl
theorem Rel.lam (r : Rel K β Γ stk σ svs H) : ∃ β0 : Base, β0.prot = [] ∧ Rel K β0 (lent Γ) [] σ [] H ∧ (∀ H', XKeep β0 H' → Rel K β Γ stk σ svs H') ∧
    ∀ (Γ' : G) (x : P) (v : V) (H' : Hp), Rel K β0 Γ' [.p x] σ [v] H' → Rel K β Γ (.p x :: stk) σ (v :: svs) H' := by
  obtain ⟨M, N, T, h1, h2, h3, h4, h5⟩ := r.ex
  have ext : ∀ H', XKeep ⟨H, No, U (U M N) T, []⟩ H' → Rel K β Γ stk σ svs H' := fun H' k => r.extN (fun a o q nt => k.1 a o nt q fun z => z.elim) k.2.2
  refine ⟨⟨H, No, U (U M N) T, []⟩, rfl, ⟨⟨No, No, U (U M N) T, RG.lent (M := M) (M' := M) Le.inr h1 (Le.inl.trans Le.inl), .nil, Sep.no, Sep.u Sep.no Sep.no, ?_⟩, fun q hq => by cases hq⟩, ext, fun Γ' x v H' r' => ?_⟩
  · exact ⟨fun _ _ _ h _ => h, fun _ h => h, fun a h => h.elim (fun z => z.elim) fun z => z.elim, fun _ h => .inr (.inl h), fun a h => h.elim (fun z => z.elim) fun z => z.elim, fun a h => h.elim (h5.live a) (h5.liveT a), h5.tabs⟩
  · obtain ⟨M', N', T', g1, g2, g3, g4, g5⟩ := r'.ex
    exact (ext H' ⟨g5.keep, g5.old, g5.tabs⟩).pushP r'.topP
end
/-- the clauses: the error's name, what is told of it -/
def toldR (l : List (Str × Str)) (c : Exn) : Option P := match c.arg with
  | [] => (l.find? fun q => decide (q.1 = c.cls)).map fun q => .tup [.str "raised", .str q.2]
  | _ => none
def toldE (errs : List Str) (l : List (Str × Str)) (f : X1) : X1 := fun Γ => match f (lent Γ) with
  | .ok _ (.p x) => .ok Γ (.p (.tup [.str "told", x]))
  | .ex c => if c.cls ∈ errs then (match toldR l c with | some x => .ok Γ (.p x) | none => .bad) else .bad
  | _ => .bad
/-- a pair comes -/
def PairN (a b : V) (H : Hp) (Q : VK) : Prop := [a, b].length ≤ sizeLine ∧ NewT [a, b] H Q
/-- what the clauses make of an error -/
def toldX (K : PySem.W.Frag) (Q : VK) : List (Value × Str) → XK
  | [] => fun _ _ _ => False
  | (c, s) :: r => fun cls d H => ∃ b, PySem.W.exmOne K cls c = some b ∧ (b = true → PairN (.str "raised") (.str s) H Q) ∧ (b = false → toldX K Q r cls d H)
def TT2 (K : PySem.W.Frag) (l : List (Value × Str)) : (XK → Hp → VK → Prop) → Hp → VK → Prop := fun tl H Q => tl (toldX K Q l) H fun v H' => PairN (.str "told") v H' Q
inductive ToldHds (mg : Str → Option Value) (sg : Scope) : List ExceptHandler → List (Value × Str) → Prop
  | nil : ToldHds mg sg [] []
  | cons {e s : Str} {c : Value} {p4 p5 p6 p7 p8 p9 : Pos} {j j2 k : Nat} {hds : List ExceptHandler} {l : List (Value × Str)} : sg.names.lookup e = some .globalImplicit → mg e = some c → (e == ("__debug__" : Str)) = false → ToldHds mg sg hds l →
      ToldHds mg sg (.ExceptHandler (some (.Name e p4)) none [.Return (some (.Tuple [.Constant (.str "raised") j p5, .Constant (.str s) j2 p6] k p7)) p8] p9 :: hds) ((c, s) :: l)
def tsS (s : Str) : Addr → Value → Option Addr → TS := fun _ _ _ D _ H => PairN (.str "raised") (.str s) H D.rt
theorem pss_pair {X : Cx} {s : Str} {p5 p6 p7 p8 : Pos} {j j2 k : Nat} : PSs X [.Return (some (.Tuple [.Constant (.str "raised") j p5, .Constant (.str s) j2 p6] k p7)) p8] (fun D _ H => PairN (.str "raised") (.str s) H D.rt) :=
  PSs.imp (pss_one (ps_ret (pe_tupF (pa_cons pe_str (pa_cons pe_str pa_nil))))) fun D σ H q => q
theorem hdsOk {X : Cx} {sg : Scope} (hg : ∀ e : Str, sg.names.lookup e = some .globalImplicit → Gl X e) : ∀ {hds : List ExceptHandler} {l : List (Value × Str)}, ToldHds X.mg sg hds l → HdsOk X hds (l.map fun q => (q.1, tsS q.2))
  | _, _, .nil => .nil
  | _, _, .cons h1 h2 h3 r => .cons ⟨hg _ h1, h3, .inl h2⟩ (fun a oe cls d pn _ _ => pss_pair) (hdsOk hg r)
theorem toldX_many {K : PySem.W.Frag} {D : Ends} {Q : VK} (hQ : D.rt = Q) : ∀ {l : List (Value × Str)} {cls : Value} {d : Option Addr} {σ : St} {H : Hp}, toldX K Q l cls d H → wMany K (fun _ _ _ _ => False) D (l.map fun q => (q.1, tsS q.2)) cls d σ H
  | [], _, _, _, _, h => h.elim
  | (c, s) :: r, cls, d, σ, H, ⟨b, h1, h2, h3⟩ => ⟨b, h1, fun hb a _ => by rw [← hQ] at h2; exact h2 hb, fun hb => toldX_many hQ (h3 hb)⟩
theorem told2_gives {X : Cx} {Ng : List Str} {x a q : Str} {sg : Scope} {g : Addr} {cdg : Value} {j0 k0 : Nat} {q0 q1 p1 p2 p3 p8 : Pos} {h0 : ExceptHandler} {hds : List ExceptHandler} {l : List (Value × Str)} (hh : ToldHds X.mg sg (h0 :: hds) l)
    (h0' : ∀ f : Addr, (L2.start Ng [V.ref f])[0]? = some (some (V.ref f))) :
    LamX.GivesTo X Ng x sg g cdg [.Try [.Return (some (.Tuple [.Constant (.str "told") j0 q0, .Call (.Name a p1) [] [] p2] k0 q1)) p3] (h0 :: hds) [] [] p8] a q (TT2 X.K l) := by
  intro f c' s H Q tl act hc h
  refine ⟨_, pss_one (ps_try_many (X := (cxOf C8.CX0 X.prog X.w X.K X.mg X.base Ng x sg g cdg X.A X.stack s H C8.E0).nox) (l := l.map fun q => (q.1, tsS q.2)) (Wout := fun _ _ _ _ => False)
      (tb := fun W D σ H => ∃ Ech : XK, (∀ cls d σ' H', Ech cls d H' → W cls d σ' H') ∧ σ[0]? = some (some (.ref f)) ∧ H c' = some (LamX.CodeO c' q) ∧ tl Ech H fun v H' => PairN (.str "told") v H' D.rt)
      rfl rfl LamX.takes0 (fun W pn xe tk _ => ?_) (hdsOk (fun e he => he) hh)), ?_⟩
  · refine ⟨fun pins s' σ H' D I h' => ?_⟩
    obtain ⟨Ech, hW, h1, h2, h3⟩ := h'
    have hp := act W pn xe Ech p1 p2 tk hW
    have hq := pss_one (ps_ret (pos := p3) (pe_tupF (k := k0) (pos := q1) (pa_cons (pe_str (x := "told") (j := j0) (pos := q0)) (pa_cons hp pa_nil))))
    exact hq.run pins s' σ H' D I ⟨h1, h2, h3⟩
  · exact ⟨toldX X.K Q l, fun cls d σ' H' z => toldX_many rfl z, h0' f, hc, h⟩
/-- the own errors of the clauses, how they stand to one another -/
structure ToldK (K : PySem.W.Frag) (mg : Str → Option Value) (l : List (Str × Str)) (lv : List (Value × Str)) (errs : List Str) : Prop where
  sn : lv.map (·.2) = l.map (·.2)
  names : ∀ (i : Nat) (q : Str × Str) (v : Value × Str), l[i]? = some q → lv[i]? = some v → mg q.1 = some v.1
  ex : ∀ n ∈ errs, ∀ u, mg n = some u → ∀ q ∈ l, ∀ v, mg q.1 = some v → PySem.W.exmOne K u v = some (decide (q.1 = n))
theorem toldX_ok {K : PySem.W.Frag} {mg : Str → Option Value} {β : Base} {Γ : G} {stk : List E} {σ : SS} {svs : List V} {errs : List Str} {n : Str} {u : Value} {d : Option Addr} {Q : VK} {x : P} {H : Hp} (hn : n ∈ errs) (hu : mg n = some u) (r : Rel K β Γ stk σ svs H)
    (q : ∀ H' v, Rel K β Γ (.p x :: stk) σ (v :: svs) H' → Q v H') : ∀ {l : List (Str × Str)} {lv : List (Value × Str)}, ToldK K mg l lv errs → toldR l ⟨n, []⟩ = some x → toldX K Q lv u d H
  | [], [], T, h => by simp [toldR] at h
  | [], _ :: _, T, _ => by have := T.sn; simp at this
  | _ :: _, [], T, _ => by have := T.sn; simp at this
  | (e, s) :: l, (c, s') :: lv, T, h => by
    have hs : s' = s := by have := T.sn; simp at this; exact this.1
    subst hs
    have he : mg e = some c := T.names 0 _ _ rfl rfl
    refine ⟨_, T.ex n hn u hu (e, s') List.mem_cons_self c he, fun hb => ?_, fun hb => ?_⟩
    · have hb : e = n := of_decide_eq_true hb
      subst hb
      have : x = .tup [.str "raised", .str s'] := by
        simp [toldR] at h
        exact h.symm
      subst this
      exact ⟨by show 2 ≤ sizeLine; decide, fun p o hp ho => q _ _ (r.newTup hp (.cons (.str _) (.cons (.str _) .nil)) ho)⟩
    · have hb : ¬ e = n := of_decide_eq_false hb
      have T' : ToldK K mg l lv errs := ⟨by have := T.sn; simpa using this, fun i q v h1 h2 => T.names (i + 1) q v (by simpa using h1) (by simpa using h2), fun m hm u hu q hq => T.ex m hm u hu q (List.mem_cons_of_mem _ hq)⟩
      refine toldX_ok hn hu r q T' ?_
      simpa [toldR, List.find?_cons, hb] using h
theorem told_imp {X : Cx} {W : XK} {f : X1} {l : List (Str × Str)} {lv : List (Value × Str)} {errs : List Str} (T : ToldK X.K X.mg l lv errs) {σ : St} {H : Hp} {Q : VK} (q : tE X.K X.mg W (toldE errs l f) σ H Q) :
    LamX.tLam Tbl.t (TT2 X.K lv) (fun E => tE X.K X.mg E f) σ H Q := by
  obtain ⟨β, Γ, stk, svs, r, q⟩ := q
  have tabs : LamX.Tabs Tbl.t H := by
    obtain ⟨_, _, _, _, _, _, _, h5⟩ := r.ex
    exact h5.tabs
  refine ⟨tabs, fun H1 e t1 => ?_⟩
  have r1 := r.extN e t1
  obtain ⟨β0, hp0, r0, hx, hok⟩ := r1.lam
  refine ⟨β0, lent Γ, [], [], r0, ?_⟩
  unfold toldE at q
  cases hf : f (lent Γ) with
  | bad => rw [hf] at q; exact q.elim
  | ok Γ' x =>
    rw [hf] at q
    cases x with
    | p x =>
      intro H2 v r2
      have r3 := hok Γ' x v H2 r2
      have r4 := r3.topP
      exact ⟨by show 2 ≤ sizeLine; decide, fun p o hp ho => q _ _ (r3.popE.newTup hp (.cons (.str _) (.cons r4 .nil)) ho)⟩
    | o x => exact q.elim
    | s x => exact q.elim
    | b x => exact q.elim
  | ex c =>
    rw [hf] at q
    dsimp only at q
    have herr : c.cls ∈ errs := by
      by_cases h : c.cls ∈ errs
      · exact h
      · rw [if_neg h] at q; exact q.elim
    rw [if_pos herr] at q
    split at q
    · rename_i x hx'
      intro cls d H2 h1 h2
      obtain ⟨n, arg⟩ := c
      have harg : arg = [] := by
        cases arg with
        | nil => rfl
        | cons _ _ => simp [toldR] at hx'
      subst harg
      exact toldX_ok herr h1.1 (hx H2 h2) q T hx'
    · exact q.elim
end Kv

set_option Elab.async false
set_option linter.all false
set_option maxRecDepth 100000
set_option maxHeartbeats 4000000
set_option autoImplicit false
/-! Kv, part T: defs below which nothing is shown (repr), defs with lambdas; _law_told as a rule. -/
namespace Kv
open PySem PySem.Spec L2
variable [Tbl]
/-- a def and its code object -/
structure FunC (K : PySem.W.Frag) (x qual : Str) (st : Stmt) (f : Addr) (fd : FuncData) (cdv : Value) : Prop where
  ex : ∃ (oc : Value) (od : Option Addr) (kV doc pm : Value) (an : Option Addr) (ct : Value) (osl : Array (Option Value)),
    fd = PySem.W.fnOf x qual (defArgs st) (defBody st) (defScope st) .none kV doc pm an cdv ct ∧ K.lookup f = some ⟨oc, od, .func fd, osl⟩ ∧ PySem.W.codeIn K cdv qual = true
  kp : PySem.W.keepIn K (.ref f) = true
theorem FunC.fn {K : PySem.W.Frag} {x qual : Str} {st : Stmt} {f : Addr} {fd : FuncData} {cdv : Value} (F : FunC K x qual st f fd cdv) : L2.Fun K x qual st f fd := by
  obtain ⟨⟨oc, od, kV, doc, pm, an, ct, osl, h1, h2, h3⟩, h4⟩ := F
  exact ⟨⟨oc, od, kV, doc, pm, an, cdv, ct, osl, h1, h2, h3⟩, h4⟩
/-- a def's promise where nothing is being shown -/
structure FnG (P : Program) (w : World) (K : PySem.W.Frag) (mg : Str → Option Value) (base : Heap) (CX : CXT) (k : Nat) (f : Addr) (fd : FuncData) (ps : List Str) (sp : Sp) : Prop where
  len : ∀ vs H Q E, sp vs H Q E → vs.length = ps.length
  run : ∀ (A : Around) (outer : List Env) (s : Shared) (H : Hp) (args : Args) (us : List Value) (vs : List V) (Q : VK) (E : XK), Room k A → A.guards = some [] → Env0 P w K mg base A outer s H → BindsTo s fd args (ps.zip us) → Vals vs us → sp vs H Q E →
    codeAny (model P w) A (.call (.ref f) args) (CR CX outer P w H s Q E) s
section
variable {P : Program} {w : World} {K : PySem.W.Frag} {mg : Str → Option Value} {base : Heap}
theorem fn_okG {x qual : Str} {st : Stmt} {f : Addr} {fd : FuncData} {cdv : Value} {N ps : List Str} {k n : Nat} {fl : List Bool} {b : X3} (F : FunC K x qual st f fd cdv) (S : FnScope N ps (defScope st)) (hps : fl.length = ps.length) (hn : N.length = fl.length + n)
    (hbody : ∀ (A : Around) (outer : List Env) (s : Shared) (H : Hp) (E : XK), Room k (A.deeper (PyProof.Rows.envOfC qual (defScope st) s.heap.objs.size f cdv)) → (A.deeper (PyProof.Rows.envOfC qual (defScope st) s.heap.objs.size f cdv)).guards = some [] →
      QB (cxOf (L2.CX P w) P w K mg base N qual (defScope st) f cdv A outer s H E) (flI 0 fl) E (defBody st) b) : FnG P w K mg base (L2.CX P w) (k + 1) f fd ps (spK K mg fl (fnE n b)) := by
  obtain ⟨⟨oc, od, kV, doc, pm, an, ct, osl, rfl, lk, hcd⟩, _⟩ := F
  have len : ∀ vs H Q E, spK K mg fl (fnE n b) vs H Q E → vs.length = ps.length := fun vs H Q E ⟨_, _, _, h, _⟩ => h.trans hps
  refine ⟨len, fun A outer s H args us vs Q E hr hgd e0 hb r hsp => ?_⟩
  exact LamX.run_ofS (N := N) lk hcd S hr e0 hb r (len _ _ _ _ hsp) fun hr' => ⟨_, hbody A outer s H E hr' hgd, body_ok hn hsp⟩
theorem fn_okC {x qual : Str} {st : Stmt} {f : Addr} {fd : FuncData} {cdv : Value} {N ps : List Str} {k n : Nat} {fl : List Bool} {b : X3} (F : FunC K x qual st f fd cdv) (S : FnScope N ps (defScope st)) (hps : fl.length = ps.length) (hn : N.length = fl.length + n)
    (hbody : ∀ (A : Around) (outer : List Env) (s : Shared) (H : Hp) (E : XK), Room k (A.deeper (PyProof.Rows.envOfC qual (defScope st) s.heap.objs.size f cdv)) →
      QB (cxOf (L2.CX P w) P w K mg base N qual (defScope st) f cdv A outer s H E) (flI 0 fl) E (defBody st) b) : FnOk P w K mg base (L2.CX P w) (k + 1) f fd ps (spK K mg fl (fnE n b)) := by
  obtain ⟨⟨oc, od, kV, doc, pm, an, ct, osl, rfl, lk, hcd⟩, _⟩ := F
  have len : ∀ vs H Q E, spK K mg fl (fnE n b) vs H Q E → vs.length = ps.length := fun vs H Q E ⟨_, _, _, h, _⟩ => h.trans hps
  refine ⟨len, fun A outer s H args us vs Q E hr e0 hb r hsp => ?_⟩
  exact LamX.run_ofS (N := N) lk hcd S hr e0 hb r (len _ _ _ _ hsp) fun hr' => ⟨_, hbody A outer s H E hr', body_ok hn hsp⟩
end
section
variable {X : Cx} {CX : CXT} {B : List Nat} {W : XK} {k : Nat} {f : Addr} {fd : FuncData} {ps : List Str} {fl : List Bool} {F : FnS} {x : Str} {p pos : Pos} {e : Expr} {es : List Expr} {g : X2} {β : Base}
theorem run_fnG {sp : Sp} {E : XK} {pins : List (Addr × Obj)} {σ : St} {H : Hp} {s : Shared} {Q : VK} {us : List Value} {vs : List V} (Fn : FnG X.prog X.w X.K X.mg X.base CX k f fd ps sp) (hr : Room k X.A) (hgd : X.A.guards = some []) (hb : Binds X.K fd ps []) (hx : Passes CX X E)
    (I : L2.Inv X pins σ H s) (r : Vals vs us) (h : sp vs H Q E) : wpAny (model X.prog X.w) X.A (call (.ref f) us) (L2.EP X pins σ Q) X.xe s := by
  have hl : us.length = ps.length := by rw [← r.length]; exact Fn.len _ _ _ _ h
  have b := hb s us I.kIn (by rw [List.append_nil]; exact hl)
  rw [List.append_nil] at b
  refine wpAny_call (codeAny_mono (Fn.run X.A X.stack s H ⟨us, []⟩ us vs Q E hr hgd I.env0 b r h) fun r s' hq => ?_)
  cases r with
  | error e => exact hx pins σ H s e s' I hq
  | ok fl =>
    cases fl with
    | ret u => exact I.after hq
    | next => exact False.elim hq
    | brk => exact False.elim hq
    | cont => exact False.elim hq
theorem pe_callG {sp : Sp} {E : XK} {t : TA} (Fn : FnG X.prog X.w X.K X.mg X.base CX k f fd ps sp) (hr : Room k X.A) (hgd : X.A.guards = some []) (hg : Gl X x) (hm : X.mg x = some (.ref f)) (hk : PySem.W.keepIn X.K (.ref f) = true) (hb : Binds X.K fd ps []) (hx : Passes CX X E)
    (ha : PA X (e :: es) t) (hdb : (x == ("__debug__" : Str)) = false := by decide) (he : starEach (e :: es) X.env = (false, eval e X.env) :: starEach es X.env := by rfl) (hpl : (backTo pos (starEach es X.env)).any (·.1) = false := by rfl) :
    PE X (.Call (.Name x p) (e :: es) [] pos) (fun σ H Q => t σ H fun vs H1 => sp vs H1 Q E) := by
  refine ⟨fun pins s σ H Q I h => ?_⟩
  refine wpAny_Call_Name_kw (ld_glob I hg hm ?_ hdb)
  refine PySem.W.callWith_K (h₀ := X.base) I.ok.mod.kin hk (thn (ha.run pos pins s σ H _ I h) fun us s1 ⟨vs, H1, I1, r, q⟩ => ⟨I1.kIn, ?_⟩) he hpl
  exact run_fnG Fn hr hgd hb hx I1 r q
theorem q_callG (Fn : FnG X.prog X.w X.K X.mg X.base CX k f fd ps (spK X.K X.mg fl F)) (hr : Room k X.A) (hgd : X.A.guards = some []) (hg : Gl X x) (hm : X.mg x = some (.ref f)) (hk : PySem.W.keepIn X.K (.ref f) = true) (hb : Binds X.K fd ps []) (hx : Passes CX X W)
    (ha : QA X B W (e :: es) g) (hdb : (x == ("__debug__" : Str)) = false := by decide) (he : starEach (e :: es) X.env = (false, eval e X.env) :: starEach es X.env := by rfl) (hpl : (backTo pos (starEach es X.env)).any (·.1) = false := by rfl) :
    QE X B W (.Call (.Name x p) (e :: es) [] pos) (callN fl F g) := PE.imp (pe_callG Fn hr hgd hg hm hk hb hx ha hdb he hpl) fun σ H Q ⟨β, Γ, stk, svs, r, q⟩ => by
  refine ⟨β, Γ, stk, svs, r, Rs.sat_mono (Rs.sat_bind.1 q) (fun Γ1 xs q1 H1 vs hl r1 => ?_) fun _ z => z⟩
  split at q1
  · rename_i hn
    exact call_ok hl hn r1 q1
  · exact q1.elim
theorem lamHx {X : Cx} {A : Around} {outer : List Env} {s : Shared} {H : Hp} {E : XK} {scope : Scope} {f c' : Addr} : Passes (L2.CX X.prog X.w) (LamX.lamCx X A outer s H E scope f c') E :=
  passes_call (X := LamX.lamCx X A outer s H E scope f c') (takes_of rfl rfl rfl rfl) (fun _ _ _ _ h => h)
/-- _law_told, as it stands behind the top -/
structure ToldF (K : PySem.W.Frag) (mg : Str → Option Value) (x a : Str) (st : Stmt) (l : List (Str × Str)) (errs : List Str) : Type where
  f : Addr
  fd : FuncData
  cdv : Value
  F : FunC K x x st f fd cdv
  m : mg x = some (.ref f)
  bi : Binds K fd [a] []
  Ng : List Str
  Sg : FnScope Ng [a] (defScope st)
  hN : Ng[0]? = some a
  va : Vis (defScope st) a
  h0 : ∀ f : Addr, (L2.start Ng [V.ref f])[0]? = some (some (V.ref f))
  lv : List (Value × Str)
  body : ∃ (j0 k0 : Nat) (q0 q1 p1 p2 p3 p8 : Pos) (h0 : ExceptHandler) (hds : List ExceptHandler), defBody st = [.Try [.Return (some (.Tuple [.Constant (.str "told") j0 q0, .Call (.Name a p1) [] [] p2] k0 q1)) p3] (h0 :: hds) [] [] p8] ∧ ToldHds mg (defScope st) (h0 :: hds) lv
  T : ToldK K mg l lv errs
/-- the name that a lambda of the def x bears -/
def lamQ (x : Str) : Str := (x ++ ".<locals>.") ++ "<lambda>"
theorem q_told {x0 : Str} {a : Str} {st : Stmt} {l : List (Str × Str)} {errs : List Str} {params : Arguments} {body : Expr} {scope : Scope} {lpos : Pos} {f1 : X1} {c Pt : Addr} (TF : ToldF X.K X.mg x a st l errs) (hg : Gl X x) (TB : LamX.TabB X.base X.mg c Pt) (hcode : X.env.code = .ref c)
    (hmT : (Pt, lamQ x0) ∈ Tbl.t) (hu : ∀ p ∈ Tbl.t, p.1 = Pt → p.2 = lamQ x0) (hql : X.env.qual = x0 ++ ".<locals>.") (hr : Room (k + 2) X.A) (L : LamX.LamS X.env.scope scope) (hdef : defaultsOf params X.env = ([], []))
    (hbind : ∀ (q : Str) (cl : List (Str × Addr)) (pm cv ctv : Value), bindArgs (PySem.W.kla_fn "<lambda>" q params body scope cl pm cv ctv) ⟨[], []⟩ = pure [])
    (hbody : ∀ (A : Around) (outer : List Env) (s : Shared) (H : Hp) (E : XK) (f c' : Addr), Room k (A.deeper (LamX.lamEnv X scope s.heap.objs.size f c')) → QE (LamX.lamCx X A outer s H E scope f c') [] E body f1)
    (hdb : (x == ("__debug__" : Str)) = false := by decide) (hd : (a == ("__debug__" : Str)) = false := by decide) (hcd : (a == ("__classdict__" : Str)) = false := by decide) :
    QE X B W (.Call (.Name x p) [.Lambda params body scope lpos] [] pos) (toldE errs l f1) := by
  have hq : lamQ x0 = X.env.qual ++ "<lambda>" := by rw [hql]; rfl
  rw [hq] at hmT; have hu : ∀ p ∈ Tbl.t, p.1 = Pt → p.2 = X.env.qual ++ "<lambda>" := fun p h1 h2 => (hu p h1 h2).trans hq
  obtain ⟨tf, tfd, cdv, ⟨⟨oc, od, kV, doc, pm, an, ct, osl, rfl, lk, hcg⟩, kp⟩, m, bi, Ng, Sg, hN, va, h0, lv, hb, T⟩ := TF
  obtain ⟨j0, k0, q0, q1, p1, p2, p3, p8, hd0, hds, e, hh⟩ := hb
  have hG : LamX.GivesTo X Ng x (defScope st) tf cdv (defBody st) a (X.env.qual ++ "<lambda>") (TT2 X.K lv) := by
    rw [e]; exact told2_gives hh h0
  exact PE.imp (LamX.pe_lamcall (t := fun E => tE X.K X.mg E f1) hg m kp lk hcg bi Sg hN va hG TB hcode hmT hu hr L hdef hbind hbody hdb hd hcd) fun σ H Q q => told_imp T q
end
end Kv

set_option Elab.async false
set_option linter.all false
set_option maxRecDepth 100000
set_option maxHeartbeats 4000000
set_option autoImplicit false
/-! plain machines: their steps, ways to modes, short rows; no program here -/
namespace Kv.M
structure Ent where
  ans : List Nat
  to : Nat
  fills : List Nat
abbrev Lines := List (List Ent)
def ent (L : Lines) (q s : Nat) : Ent := (L.getD q []).getD s ⟨[], 0, []⟩
def picks {α : Type} (ts : List α) (is : List Nat) : List α := is.filterMap (ts[·]?)
theorem picks_nil {α : Type} (ts : List α) : picks ts [] = [] := rfl
theorem picks_cons {α : Type} {ts : List α} {i : Nat} {is : List Nat} {x : α} (h : ts[i]? = some x) : picks ts (i :: is) = x :: picks ts is := by
  simp [picks, List.filterMap_cons, h]
theorem picks_len {α : Type} {ts : List α} : ∀ {is : List Nat}, (∀ i ∈ is, i < ts.length) → (picks ts is).length = is.length
  | [], _ => rfl
  | i :: is, h => by
    have hi := h i List.mem_cons_self
    rw [picks_cons (List.getElem?_eq_getElem hi), List.length_cons, List.length_cons, picks_len fun j hj => h j (List.mem_cons_of_mem _ hj)]
theorem picks_map {α γ : Type} (f : α → γ) (ts : List α) (is : List Nat) : picks (ts.map f) is = (picks ts is).map f := by
  unfold picks
  induction is with
  | nil => rfl
  | cons i is ih =>
    rw [List.filterMap_cons, List.filterMap_cons, List.getElem?_map]
    cases ts[i]? with
    | none => simpa using ih
    | some x => simp only [Option.map_some, List.map_cons, ih]
theorem picks_mem {α : Type} {ts : List α} {x : α} {is : List Nat} (h : x ∈ picks ts is) : ∃ i ∈ is, ts[i]? = some x := by
  simpa [picks] using h
theorem picks_nodup {α : Type} {ts : List α} : ∀ {is : List Nat}, is.Nodup → (∀ i ∈ is, ∀ j ∈ is, ∀ x, ts[i]? = some x → ts[j]? = some x → i = j) → (picks ts is).Nodup
  | [], _, _ => List.nodup_nil
  | i :: is, hn, hi => by
    have hn' := List.nodup_cons.mp hn
    have ih := picks_nodup (ts := ts) hn'.2 fun a ha b hb => hi a (List.mem_cons_of_mem _ ha) b (List.mem_cons_of_mem _ hb)
    cases h : ts[i]? with
    | none =>
      have e : picks ts (i :: is) = picks ts is := by simp [picks, List.filterMap_cons, h]
      rw [e]; exact ih
    | some x =>
      rw [picks_cons h, List.nodup_cons]
      refine ⟨fun hm => ?_, ih⟩
      obtain ⟨j, hj, e⟩ := picks_mem hm
      have := hi i List.mem_cons_self j (List.mem_cons_of_mem _ hj) x h e
      subst this
      exact hn'.1 hj
/-- how many things are at hand at the s-th sign of a mode with b boxes -/
def hand (c b s : Nat) : Nat := c + b + if s = c + b then 1 else 0
structure EntOk (c : Nat) (B : List Nat) (b s : Nat) (e : Ent) : Prop where
  an : ∀ a ∈ e.ans, a < hand c b s
  al : e.ans.length ≤ 2
  fl : B[e.to]? = some e.fills.length
  fn : e.fills.Nodup
  fr : ∀ f ∈ e.fills, c ≤ f ∧ f < hand c b s
structure LOk (c : Nat) (B : List Nat) (L : Lines) : Prop where
  b0 : B[0]? = some 0
  ll : L.length = B.length
  len : ∀ (i : Nat) (l : List Ent) (b : Nat), L[i]? = some l → B[i]? = some b → l.length = c + b + 1
  ent : ∀ (i : Nat) (l : List Ent) (b s : Nat) (e : Ent), L[i]? = some l → B[i]? = some b → l[s]? = some e → EntOk c B b s e
theorem LOk.at {c : Nat} {B : List Nat} {L : Lines} (h : LOk c B L) {q b s : Nat} (hq : B[q]? = some b) (hs : s < c + b + 1) : ∃ l, L[q]? = some l ∧ l.length = c + b + 1 ∧ l[s]? = some (M.ent L q s) ∧ EntOk c B b s (M.ent L q s) := by
  have hl : q < L.length := by
    rw [h.ll]
    by_cases z : q < B.length
    · exact z
    · rw [List.getElem?_eq_none (by omega)] at hq; cases hq
  have e1 : L[q]? = some L[q] := List.getElem?_eq_getElem hl
  have e2 := h.len q _ b e1 hq
  have hs' : s < L[q].length := by omega
  have e3 : L[q][s]? = some L[q][s] := List.getElem?_eq_getElem hs'
  have e4 : M.ent L q s = L[q][s] := by
    unfold M.ent
    have e5 : L.getD q [] = L[q] := by rw [List.getD_eq_getElem?_getD, e1, Option.getD_some]
    rw [e5, List.getD_eq_getElem?_getD, e3, Option.getD_some]
  exact ⟨L[q], e1, e2, by rw [e4]; exact e3, by rw [e4]; exact h.ent q _ b s _ e1 hq e3⟩
section
variable {α : Type}
abbrev St (α : Type) := Nat × List α
def things (ws vs : List α) (v : α) : List α := ws ++ vs ++ [v]
def nxt (L : Lines) (ws : List α) (st : St α) (s : Nat) (v : α) : St α := ((ent L st.1 s).to, picks (things ws st.2 v) (ent L st.1 s).fills)
def ans (L : Lines) (ws : List α) (st : St α) (s : Nat) (v : α) : List α := picks (things ws st.2 v) (ent L st.1 s).ans
theorem things_len (ws vs : List α) (v : α) : (things ws vs v).length = ws.length + vs.length + 1 := by simp [things]; omega
theorem hand_le (c b s : Nat) : hand c b s ≤ c + b + 1 := by unfold hand; split <;> omega
variable [DecidableEq α]
def sgn (ws vs : List α) (v : α) : Nat := (things ws vs v).findIdx fun z => decide (z = v)
theorem sgn_lt (ws vs : List α) (v : α) : sgn ws vs v < ws.length + vs.length + 1 := by
  rw [← things_len ws vs v]
  exact List.findIdx_lt_length_of_exists ⟨v, by simp [things], by simp⟩
theorem sgn_get (ws vs : List α) (v : α) : (things ws vs v)[sgn ws vs v]? = some v := by
  have h : sgn ws vs v < (things ws vs v).length := by rw [things_len]; exact sgn_lt ws vs v
  rw [List.getElem?_eq_getElem h]
  have := List.findIdx_getElem (w := h)
  have e : (things ws vs v)[sgn ws vs v] = v := of_decide_eq_true this
  rw [e]
/-- a sign is that of the first place of its value -/
theorem sgn_of {ws vs : List α} {v : α} {s : Nat} (h : (things ws vs v)[s]? = some v) (hf : ∀ j, j < s → (things ws vs v)[j]? ≠ some v) : sgn ws vs v = s := by
  have h1 := sgn_get ws vs v
  have h2 : ¬ sgn ws vs v < s := fun z => hf _ z h1
  have h3 : ¬ s < sgn ws vs v := fun z => by
    have := List.not_of_lt_findIdx z
    have hl : s < (things ws vs v).length := by
      by_cases z : s < (things ws vs v).length
      · exact z
      · rw [List.getElem?_eq_none (by omega)] at h; cases h
    rw [List.getElem?_eq_getElem hl, Option.some_inj] at h
    simp [h] at this
  omega
def rd1 (L : Lines) (ws : List α) (st : St α) (v : α) : St α := nxt L ws st (sgn ws st.2 v) v
def an1 (L : Lines) (ws : List α) (st : St α) (v : α) : List α := ans L ws st (sgn ws st.2 v) v
def runS (L : Lines) (ws : List α) : St α → List α → St α
  | st, [] => st
  | st, v :: r => runS L ws (rd1 L ws st v) r
def runA (L : Lines) (ws : List α) : St α → List α → List (List α)
  | _, [] => []
  | st, v :: r => an1 L ws st v :: runA L ws (rd1 L ws st v) r
def runG (L : Lines) (ws : List α) : St α → List α → List Nat
  | _, [] => []
  | st, v :: r => sgn ws st.2 v :: runG L ws (rd1 L ws st v) r
theorem runS_app (L : Lines) (ws : List α) : ∀ (a : List α) (st : St α) (b : List α), runS L ws st (a ++ b) = runS L ws (runS L ws st a) b
  | [], _, _ => rfl
  | v :: r, st, b => by simp only [List.cons_append, runS]; exact runS_app L ws r _ b
theorem runG_app (L : Lines) (ws : List α) : ∀ (a : List α) (st : St α) (b : List α), runG L ws st (a ++ b) = runG L ws st a ++ runG L ws (runS L ws st a) b
  | [], _, _ => rfl
  | v :: r, st, b => by simp only [List.cons_append, runS, runG]; rw [runG_app L ws r _ b]
/-- a right stand -/
structure StOk (ws : List α) (B : List Nat) (st : St α) : Prop where
  b : B[st.1]? = some st.2.length
  n : st.2.Nodup
  w : ∀ v ∈ st.2, v ∉ ws
theorem st0_ok {ws : List α} {B : List Nat} (h : B[0]? = some 0) : StOk ws B (0, []) := ⟨h, List.nodup_nil, fun _ h => by cases h⟩
theorem things_get (ws vs : List α) (v : α) {i : Nat} {x : α} (hi : ws.length ≤ i) (h : (things ws vs v)[i]? = some x) : (vs ++ [v])[i - ws.length]? = some x := by
  unfold things at h
  rw [List.append_assoc, List.getElem?_append_right hi] at h
  exact h
theorem nodup_get {l : List α} (h : l.Nodup) {i j : Nat} {x : α} (a : l[i]? = some x) (b : l[j]? = some x) : i = j := by
  have hi : i < l.length := by
    by_cases z : i < l.length
    · exact z
    · rw [List.getElem?_eq_none (by omega)] at a; cases a
  exact (List.getElem?_inj hi h).mp (a.trans b.symm)
/-- what lies in boxes behind a sign: members of the former ones, or the value -/
theorem nxt_ok {ws : List α} {B : List Nat} {L : Lines} {st : St α} {v : α} {s : Nat} (hL : LOk ws.length B L) (h : StOk ws B st) (hs : s < ws.length + st.2.length + 1) (hv : s = ws.length + st.2.length → v ∉ ws ∧ v ∉ st.2) :
    StOk ws B (nxt L ws st s v) ∧ ∀ x ∈ (nxt L ws st s v).2, x ∈ st.2 ∨ (x = v ∧ s = ws.length + st.2.length) := by
  obtain ⟨l, e1, e2, e3, e4⟩ := hL.at h.b hs
  have fl : ∀ f ∈ (ent L st.1 s).fills, f < (things ws st.2 v).length := fun f hf => by
    rw [things_len]; exact Nat.lt_of_lt_of_le (e4.fr f hf).2 (hand_le ..)
  have mem : ∀ f ∈ (ent L st.1 s).fills, ∀ x, (things ws st.2 v)[f]? = some x → (x ∈ st.2 ∧ f < ws.length + st.2.length ∧ st.2[f - ws.length]? = some x) ∨ (x = v ∧ s = ws.length + st.2.length ∧ f = ws.length + st.2.length) := fun f hf x hx => by
    obtain ⟨g1, g2⟩ := e4.fr f hf
    have hx := things_get ws st.2 v g1 hx
    by_cases hl : f - ws.length < st.2.length
    · rw [List.getElem?_append_left hl] at hx
      exact .inl ⟨List.mem_of_getElem? hx, by omega, hx⟩
    · unfold hand at g2
      by_cases hs : s = ws.length + st.2.length
      · rw [if_pos hs] at g2
        have hf : f = ws.length + st.2.length := by omega
        have : f - ws.length = st.2.length := by omega
        rw [this] at hx
        simp at hx
        exact .inr ⟨hx.symm, hs, hf⟩
      · rw [if_neg hs] at g2; omega
  refine ⟨⟨?_, ?_, ?_⟩, ?_⟩
  · show B[(ent L st.1 s).to]? = some (picks _ _).length
    rw [picks_len fl]; exact e4.fl
  · refine picks_nodup e4.fn fun i hi j hj x hx hy => ?_
    have gi := (e4.fr i hi).1
    have gj := (e4.fr j hj).1
    rcases mem i hi x hx with ⟨a1, a2, a3⟩ | ⟨a1, a2, a3⟩ <;> rcases mem j hj x hy with ⟨b1, b2, b3⟩ | ⟨b1, b2, b3⟩
    · have := nodup_get h.n a3 b3; omega
    · subst b1; exact absurd a1 (hv b2).2
    · subst a1; exact absurd b1 (hv a2).2
    · omega
  · intro x hx
    obtain ⟨i, hi, e⟩ := picks_mem hx
    rcases mem i hi x e with ⟨a1, _⟩ | ⟨a1, a2, _⟩
    · exact h.w x a1
    · subst a1; exact (hv a2).1
  · intro x hx
    obtain ⟨i, hi, e⟩ := picks_mem hx
    rcases mem i hi x e with ⟨a1, _⟩ | ⟨a1, a2, _⟩
    · exact .inl a1
    · exact .inr ⟨a1, a2⟩
theorem sgn_new {ws vs : List α} {v : α} (h : sgn ws vs v = ws.length + vs.length) : v ∉ ws ∧ v ∉ vs := by
  have no : ∀ j, j < ws.length + vs.length → (things ws vs v)[j]? ≠ some v := fun j hj e => by
    have := List.not_of_lt_findIdx (xs := things ws vs v) (p := fun z => decide (z = v)) (i := j) (by unfold sgn at h; omega)
    have hl : j < (things ws vs v).length := by rw [things_len]; omega
    rw [List.getElem?_eq_getElem hl, Option.some_inj] at e
    simp [e] at this
  constructor
  · intro hm
    obtain ⟨j, hj, e⟩ := List.getElem_of_mem hm
    refine no j (by omega) ?_
    unfold things
    rw [List.append_assoc, List.getElem?_append_left hj, List.getElem?_eq_getElem hj, e]
  · intro hm
    obtain ⟨j, hj, e⟩ := List.getElem_of_mem hm
    refine no (ws.length + j) (by omega) ?_
    unfold things
    rw [List.append_assoc, List.getElem?_append_right (by omega), show ws.length + j - ws.length = j by omega, List.getElem?_append_left hj, List.getElem?_eq_getElem hj, e]
theorem rd1_ok {ws : List α} {B : List Nat} {L : Lines} {st : St α} (v : α) (hL : LOk ws.length B L) (h : StOk ws B st) : StOk ws B (rd1 L ws st v) ∧ ∀ x ∈ (rd1 L ws st v).2, x ∈ st.2 ∨ x = v :=
  have h := nxt_ok hL h (sgn_lt ..) sgn_new
  ⟨h.1, fun x hx => (h.2 x hx).imp_right And.left⟩
theorem runS_ok {ws : List α} {B : List Nat} {L : Lines} (hL : LOk ws.length B L) : ∀ {row : List α} {st : St α}, StOk ws B st → StOk ws B (runS L ws st row) ∧ ∀ x ∈ (runS L ws st row).2, x ∈ st.2 ∨ x ∈ row
  | [], st, h => ⟨h, fun x hx => .inl hx⟩
  | v :: r, st, h => by
    obtain ⟨a, b⟩ := rd1_ok v hL h
    obtain ⟨c, d⟩ := runS_ok hL (row := r) a
    refine ⟨c, fun x hx => ?_⟩
    rcases d x hx with z | z
    · rcases b x z with y | y
      · exact .inl y
      · exact .inr (by rw [y]; exact List.mem_cons_self)
    · exact .inr (List.mem_cons_of_mem _ z)
end
end Kv.M

set_option Elab.async false
set_option linter.all false
set_option maxRecDepth 100000
set_option maxHeartbeats 4000000
set_option autoImplicit false
/-! plain machines: ways to modes -/
namespace Kv.M
abbrev Ways := List (Nat × List Nat)
def keys (f : Ways) : List Nat := f.map (·.1)
def way (f : Ways) (k : Nat) : List Nat := ((f.find? fun q => decide (q.1 = k)).map (·.2)).getD []
/-- one line gone through -/
def scan (w : List Nat) : List Ent → Nat → Ways → List Nat → Ways × List Nat
  | [], _, f, l => (f, l)
  | e :: r, s, f, l => if e.to ∈ keys f then scan w r (s + 1) f l else scan w r (s + 1) (f ++ [(e.to, w ++ [s])]) (l ++ [e.to])
def bfs (L : Lines) : Nat → Ways → List Nat → Ways
  | 0, f, _ => f
  | _ + 1, f, [] => f
  | n + 1, f, m :: l => bfs L n (scan (way f m) (L.getD m []) 0 f l).1 (scan (way f m) (L.getD m []) 0 f l).2
inductive Pth (c : Nat) (B : List Nat) (L : Lines) : List Nat → Nat → Prop
  | nil : Pth c B L [] 0
  | snoc {w : List Nat} {q b s : Nat} : Pth c B L w q → B[q]? = some b → s < c + b + 1 → Pth c B L (w ++ [s]) (ent L q s).to
structure WInv (c : Nat) (B : List Nat) (L : Lines) (f : Ways) : Prop where
  nd : (keys f).Nodup
  lt : ∀ k ∈ keys f, k < B.length
  pt : ∀ q ∈ f, Pth c B L q.2 q.1
  z : f ≠ []
  ln : ∀ q ∈ f, q.2.length < f.length
theorem keys_app (f g : Ways) : keys (f ++ g) = keys f ++ keys g := by simp [keys]
theorem way_mem {f : Ways} {k : Nat} (h : k ∈ keys f) : (k, way f k) ∈ f := by
  unfold way
  cases q : f.find? fun q => decide (q.1 = k) with
  | none =>
    rw [List.find?_eq_none] at q
    obtain ⟨x, hx, e⟩ := List.mem_map.mp h
    exact absurd (decide_eq_true e) (q x hx)
  | some x =>
    have h1 := List.mem_of_find?_eq_some q
    have h2 : x.1 = k := by simpa using List.find?_some q
    subst h2
    exact h1
theorem way_app {f : Ways} {k : Nat} (h : k ∈ keys f) (g : Ways) : way (f ++ g) k = way f k := by
  unfold way
  rw [List.find?_append]
  cases q : f.find? fun q => decide (q.1 = k) with
  | none =>
    rw [List.find?_eq_none] at q
    obtain ⟨x, hx, e⟩ := List.mem_map.mp h
    exact absurd (decide_eq_true e) (q x hx)
  | some x => rfl
/-- what stays while a line is gone through -/
theorem scan_ok {c : Nat} {B : List Nat} {L : Lines} (hL : LOk c B L) {m b : Nat} {w : List Nat} (hw : Pth c B L w m) (hb : B[m]? = some b) {ll : List Ent} (hl : L[m]? = some ll) :
    ∀ (r : List Ent) (s : Nat) (f : Ways) (l : List Nat), ll.drop s = r → WInv c B L f → w.length < f.length → (∀ k ∈ l, k ∈ keys f) →
      WInv c B L (scan w r s f l).1 ∧ (∀ k ∈ (scan w r s f l).2, k ∈ keys (scan w r s f l).1) ∧
      ∃ g : Ways, (scan w r s f l).1 = f ++ g ∧ (scan w r s f l).2 = l ++ keys g
  | [], s, f, l, _, hf, _, hk => ⟨hf, hk, [], by simp [scan], by simp [scan, keys]⟩
  | e :: r, s, f, l, hd, hf, hwl, hk => by
    have hs : s < ll.length := by
      by_cases z : s < ll.length
      · exact z
      · rw [List.drop_eq_nil_of_le (by omega)] at hd; cases hd
    have hd' : ll.drop (s + 1) = r := by rw [← List.drop_drop, hd]; rfl
    have he : ll[s]? = some e := by
      have := congrArg (fun z => z[0]?) hd
      simpa using this
    have hlen := hL.len m ll b hl hb
    have e4 : ent L m s = e := by
      unfold ent
      have e5 : L.getD m [] = ll := by rw [List.getD_eq_getElem?_getD, hl, Option.getD_some]
      rw [e5, List.getD_eq_getElem?_getD, he, Option.getD_some]
    unfold scan
    by_cases hm : e.to ∈ keys f
    · rw [if_pos hm]
      exact scan_ok hL hw hb hl r (s + 1) f l hd' hf hwl hk
    · rw [if_neg hm]
      have eo := hL.ent m ll b s e hl hb he
      have hto : e.to < B.length := by
        have := eo.fl
        by_cases z : e.to < B.length
        · exact z
        · rw [List.getElem?_eq_none (by omega)] at this; cases this
      have h2 : WInv c B L (f ++ [(e.to, w ++ [s])]) := by
        refine ⟨?_, ?_, ?_, ?_, ?_⟩
        · rw [keys_app]
          show (keys f ++ [e.to]).Nodup
          rw [List.nodup_append]
          refine ⟨hf.nd, by simp, fun a ha b hb => ?_⟩
          simp at hb; subst hb
          exact fun z => hm (z ▸ ha)
        · intro k hk
          rw [keys_app] at hk
          rcases List.mem_append.mp hk with h | h
          · exact hf.lt k h
          · have : k = e.to := by simpa [keys] using h
            rw [this]; exact hto
        · intro q hq
          rcases List.mem_append.mp hq with h | h
          · exact hf.pt q h
          · have : q = (e.to, w ++ [s]) := by simpa using h
            rw [this]
            have := Pth.snoc hw hb (s := s) (by omega)
            rw [e4] at this
            exact this
        · simp
        · intro q hq
          rw [List.length_append]
          rcases List.mem_append.mp hq with h | h
          · have := hf.ln q h
            exact Nat.lt_add_right _ this
          · have : q = (e.to, w ++ [s]) := by simpa using h
            rw [this]
            simp; exact hwl
      obtain ⟨a1, a2, g, a3, a4⟩ := scan_ok hL hw hb hl r (s + 1) (f ++ [(e.to, w ++ [s])]) (l ++ [e.to]) hd' h2 (by rw [List.length_append]; exact Nat.lt_add_right _ hwl) fun k hk' => by
        rw [keys_app]
        rcases List.mem_append.mp hk' with h | h
        · exact List.mem_append_left _ (hk k h)
        · exact List.mem_append_right _ (by simpa [keys] using h)
      refine ⟨a1, a2, (e.to, w ++ [s]) :: g, ?_, ?_⟩
      · rw [a3]; simp
      · rw [a4]; simp [keys]
theorem nodup_lt_len : ∀ {n : Nat} {l : List Nat}, l.Nodup → (∀ k ∈ l, k < n) → l.length ≤ n
  | 0, [], _, _ => Nat.le_refl _
  | 0, k :: _, _, hl => absurd (hl k List.mem_cons_self) (by omega)
  | n + 1, l, h, hl => by
    have ih := nodup_lt_len (n := n) (l := l.erase n) (h.erase n) fun k hk => by
      have := (h.mem_erase_iff).mp hk
      have := hl k this.2
      omega
    by_cases hm : n ∈ l
    · rw [List.length_erase_of_mem hm] at ih; omega
    · rw [List.erase_of_not_mem hm] at ih; omega
theorem WInv.len {c : Nat} {B : List Nat} {L : Lines} {f : Ways} (h : WInv c B L f) : f.length ≤ B.length := by
  have := nodup_lt_len h.nd h.lt
  simpa [keys] using this
/-- the last ways -/
theorem bfs_ok {c : Nat} {B : List Nat} {L : Lines} (hL : LOk c B L) : ∀ (n : Nat) (f : Ways) (l : List Nat), WInv c B L f → (∀ k ∈ l, k ∈ keys f) → WInv c B L (bfs L n f l)
  | 0, f, l, hf, _ => hf
  | n + 1, f, [], hf, _ => hf
  | n + 1, f, m :: l, hf, hk => by
    unfold bfs
    have hm := hk m List.mem_cons_self
    have hlt := hf.lt m hm
    have hB : B[m]? = some B[m] := List.getElem?_eq_getElem hlt
    have hl' : m < L.length := by rw [hL.ll]; exact hlt
    have hLm : L[m]? = some L[m] := List.getElem?_eq_getElem hl'
    have e5 : L.getD m [] = L[m] := by rw [List.getD_eq_getElem?_getD, hLm, Option.getD_some]
    rw [e5]
    obtain ⟨a1, a2, _⟩ := scan_ok hL (hf.pt _ (way_mem hm)) hB hLm L[m] 0 f l (by simp) hf (hf.ln _ (way_mem hm)) fun k h => hk k (List.mem_cons_of_mem _ h)
    exact bfs_ok hL n _ _ a1 a2
def ways (L : Lines) (n : Nat) : Ways := bfs L (n + 1) [(0, [])] [0]
theorem w0_ok {c : Nat} {B : List Nat} {L : Lines} (hL : LOk c B L) : WInv c B L [(0, [])] := by
  refine ⟨by simp [keys], ?_, ?_, by simp, fun q hq => ?_⟩
  · intro k hk
    have : k = 0 := by simpa [keys] using hk
    subst this
    have := hL.b0
    by_cases z : 0 < B.length
    · exact z
    · rw [List.getElem?_eq_none (by omega)] at this; cases this
  · intro q hq
    have : q = (0, []) := by simpa using hq
    subst this; exact .nil
  · have : q = (0, []) := by simpa using hq
    subst this; simp
theorem ways_ok {c : Nat} {B : List Nat} {L : Lines} (hL : LOk c B L) (n : Nat) : WInv c B L (ways L n) :=
  bfs_ok hL _ _ _ (w0_ok hL) fun k hk => by simpa [keys] using hk
end Kv.M

set_option Elab.async false
set_option linter.all false
set_option maxRecDepth 100000
set_option maxHeartbeats 4000000
set_option autoImplicit false
/-! plain machines: marks read by a row of signs, the short row of a stand -/
namespace Kv.M
section
variable {α : Type} [DecidableEq α]
abbrev Mk (α : Type) := α ⊕ Nat
structure Sy (α : Type) where
  q : Nat
  vs : List (Mk α)
  many : Nat
  found : List (Mk α)
def syT (ws : List α) (x : Sy α) : List (Mk α) := things (ws.map .inl) x.vs (.inr x.many)
def sy1 (L : Lines) (ws : List α) (x : Sy α) (s : Nat) : Sy α :=
  ⟨(ent L x.q s).to, picks (syT ws x) (ent L x.q s).fills, x.many + (if s = ws.length + x.vs.length then 1 else 0), x.found ++ ((syT ws x)[s]?).toList⟩
def sy0 : Sy α := ⟨0, [], 0, []⟩
def sy (L : Lines) (ws : List α) (w : List Nat) : Sy α := w.foldl (sy1 L ws) sy0
theorem sy_snoc (L : Lines) (ws : List α) (w : List Nat) (s : Nat) : sy L ws (w ++ [s]) = sy1 L ws (sy L ws w) s := by simp [sy]
/-- a way to put values for marks -/
structure Put (ws : List α) (n : Nat) (ρ : Mk α → α) : Prop where
  wd : ∀ a ∈ ws, ρ (.inl a) = a
  nw : ∀ j, j < n → ρ (.inr j) ∉ ws
  inj : ∀ i j, i < n → j < n → ρ (.inr i) = ρ (.inr j) → i = j
structure SInv (B : List Nat) (L : Lines) (ws : List α) (w : List Nat) (k : Nat) (x : Sy α) : Prop where
  q : x.q = k
  b : B[k]? = some x.vs.length
  nd : x.vs.Nodup
  vs : ∀ v ∈ x.vs, ∃ j, j < x.many ∧ v = .inr j
  fd : ∀ m ∈ x.found, (∃ a ∈ ws, m = .inl a) ∨ ∃ j, j < x.many ∧ m = .inr j
  len : x.found.length = w.length
  all : ∀ j, j < x.many → Sum.inr j ∈ x.found
  sim : ∀ ρ : Mk α → α, Put ws x.many ρ → runS L ws (0, []) (x.found.map ρ) = (x.q, x.vs.map ρ) ∧ runG L ws (0, []) (x.found.map ρ) = w
theorem picks_congr {ts ts' : List α} : ∀ {is : List Nat}, (∀ i ∈ is, ts[i]? = ts'[i]?) → picks ts is = picks ts' is
  | [], _ => rfl
  | i :: is, h => by
    have ih := picks_congr (ts := ts) (ts' := ts') (is := is) fun j hj => h j (List.mem_cons_of_mem _ hj)
    have hi := h i List.mem_cons_self
    unfold picks at ih ⊢
    rw [List.filterMap_cons, List.filterMap_cons, hi, ih]
theorem things_at1 {ws vs : List α} {v : α} {i : Nat} (h : i < ws.length) : (things ws vs v)[i]? = ws[i]? := by
  unfold things; rw [List.append_assoc, List.getElem?_append_left h]
theorem things_at2 {ws vs : List α} {v : α} {i : Nat} (h : ws.length ≤ i) (h2 : i < ws.length + vs.length) : (things ws vs v)[i]? = vs[i - ws.length]? := by
  unfold things; rw [List.append_assoc, List.getElem?_append_right h, List.getElem?_append_left (by omega)]
theorem things_at3 {ws vs : List α} {v : α} : (things ws vs v)[ws.length + vs.length]? = some v := by
  unfold things; rw [List.append_assoc, List.getElem?_append_right (by omega), List.getElem?_append_right (by omega)]; simp
theorem sinv_ok {B : List Nat} {L : Lines} {ws : List α} (hw : ws.Nodup) (hL : LOk ws.length B L) {w : List Nat} {k : Nat} (hp : Pth ws.length B L w k) : SInv B L ws w k (sy L ws w) := by
  induction hp with
  | nil =>
    refine ⟨rfl, hL.b0, List.nodup_nil, ?_, ?_, rfl, ?_, fun ρ _ => ⟨rfl, rfl⟩⟩
    · intro v h; exact absurd h List.not_mem_nil
    · intro v h; exact absurd h List.not_mem_nil
    · intro j h; exact absurd h (Nat.not_lt_zero j)
  | @snoc w q b s hp hb hs ih =>
    rw [sy_snoc]
    generalize hx : sy L ws w = x at ih ⊢
    have hbe : b = x.vs.length := by have := ih.b; rw [hb] at this; exact Option.some_inj.mp this
    subst hbe
    obtain ⟨l, e1, e2, e3, e4⟩ := hL.at hb hs
    have hL' : LOk (ws.map (Sum.inl (β := Nat))).length B L := by rw [List.length_map]; exact hL
    have hxq := ih.q
    subst hxq
    have nv : Sum.inr x.many ∉ ws.map (Sum.inl (β := Nat)) := by simp
    have nv2 : Sum.inr x.many ∉ x.vs := fun h => by
      obtain ⟨j, hj, e⟩ := ih.vs _ h
      cases e; omega
    have st : StOk (ws.map (Sum.inl (β := Nat))) B (x.q, x.vs) := ⟨hb, ih.nd, fun v hv => by
      obtain ⟨j, _, e⟩ := ih.vs v hv
      subst e; simp⟩
    obtain ⟨n1, n2⟩ := nxt_ok (v := Sum.inr x.many) (s := s) hL' st (by rw [List.length_map]; exact hs) fun _ => ⟨nv, nv2⟩
    have e5 : nxt L (ws.map (Sum.inl (β := Nat))) (x.q, x.vs) s (Sum.inr x.many) = ((sy1 L ws x s).q, (sy1 L ws x s).vs) := rfl
    rw [e5] at n1 n2
    have hsl : s < (syT ws x).length := by unfold syT; rw [things_len, List.length_map]; exact hs
    obtain ⟨mk, hmk⟩ : ∃ mk, (syT ws x)[s]? = some mk := ⟨_, List.getElem?_eq_getElem hsl⟩
    have efound : (sy1 L ws x s).found = x.found ++ [mk] := by unfold sy1; rw [hmk]; rfl
    have hmany : x.many ≤ (sy1 L ws x s).many := by unfold sy1; exact Nat.le_add_right ..
    have hlen' : (ws.map (Sum.inl (β := Nat))).length = ws.length := List.length_map ..
    have kind : (s < ws.length ∧ ∃ a, ws[s]? = some a ∧ mk = .inl a) ∨ (ws.length ≤ s ∧ s < ws.length + x.vs.length ∧ x.vs[s - ws.length]? = some mk) ∨ (s = ws.length + x.vs.length ∧ mk = .inr x.many ∧ (sy1 L ws x s).many = x.many + 1) := by
      by_cases h1 : s < ws.length
      · left
        unfold syT at hmk
        rw [things_at1 (by rw [hlen']; exact h1), List.getElem?_map] at hmk
        have := List.getElem?_eq_getElem h1
        rw [this] at hmk
        exact ⟨h1, _, this, (Option.some_inj.mp hmk).symm⟩
      · by_cases h2 : s < ws.length + x.vs.length
        · right; left
          unfold syT at hmk
          rw [things_at2 (by rw [hlen']; omega) (by rw [hlen']; exact h2), hlen'] at hmk
          exact ⟨by omega, h2, hmk⟩
        · right; right
          have h3 : s = ws.length + x.vs.length := by omega
          refine ⟨h3, ?_, ?_⟩
          · unfold syT at hmk
            have : s = (ws.map (Sum.inl (β := Nat))).length + x.vs.length := by rw [hlen']; exact h3
            rw [this, things_at3] at hmk
            exact (Option.some_inj.mp hmk).symm
          · unfold sy1
            show x.many + (if s = ws.length + x.vs.length then 1 else 0) = _
            rw [if_pos h3]
    refine ⟨rfl, n1.b, n1.n, ?_, ?_, ?_, ?_, ?_⟩
    · intro v hv
      rcases n2 v hv with h | ⟨h, h3⟩
      · obtain ⟨j, hj, e⟩ := ih.vs v h
        exact ⟨j, by omega, e⟩
      · refine ⟨x.many, ?_, h⟩
        unfold sy1
        show _ < x.many + (if s = ws.length + x.vs.length then 1 else 0)
        rw [hlen'] at h3
        rw [if_pos h3]; omega
    · intro m hm
      rw [efound] at hm
      rcases List.mem_append.mp hm with h | h
      · rcases ih.fd m h with h | ⟨j, hj, e⟩
        · exact .inl h
        · exact .inr ⟨j, by omega, e⟩
      · have : m = mk := by simpa using h
        subst this
        rcases kind with ⟨_, a, h1, h2⟩ | ⟨_, _, h1⟩ | ⟨_, h1, h2⟩
        · exact .inl ⟨a, List.mem_of_getElem? h1, h2⟩
        · obtain ⟨j, hj, e⟩ := ih.vs m (List.mem_of_getElem? h1)
          exact .inr ⟨j, by omega, e⟩
        · exact .inr ⟨x.many, by omega, h1⟩
    · rw [efound]; simp [ih.len]
    · intro j hj
      rw [efound]
      by_cases h : j < x.many
      · exact List.mem_append_left _ (ih.all j h)
      · rcases kind with ⟨h1, _⟩ | ⟨_, h1, _⟩ | ⟨_, h1, h2⟩
        · have : (sy1 L ws x s).many = x.many + 0 := by
            unfold sy1
            show x.many + (if s = ws.length + x.vs.length then 1 else 0) = _
            rw [if_neg (by omega)]
          omega
        · have : (sy1 L ws x s).many = x.many + 0 := by
            unfold sy1
            show x.many + (if s = ws.length + x.vs.length then 1 else 0) = _
            rw [if_neg (by omega)]
          omega
        · have : j = x.many := by omega
          subst this
          rw [h1]; simp
    · intro ρ hρ
      have hρ0 : Put ws x.many ρ := ⟨hρ.wd, fun j hj => hρ.nw j (by omega), fun i j hi hj => hρ.inj i j (by omega) (by omega)⟩
      obtain ⟨g1, g2⟩ := ih.sim ρ hρ0
      rw [efound, List.map_append, List.map_cons, List.map_nil, runS_app, runG_app, g1, g2]
      have lv : (x.vs.map ρ).length = x.vs.length := List.length_map ..
      have vnw : ∀ v ∈ x.vs, ρ v ∉ ws := fun v hv => by
        obtain ⟨j, hj, e⟩ := ih.vs v hv
        subst e; exact hρ0.nw j hj
      have vinj : ∀ u ∈ x.vs, ∀ v ∈ x.vs, ρ u = ρ v → u = v := fun u hu v hv h => by
        obtain ⟨i, hi, e⟩ := ih.vs u hu
        obtain ⟨j, hj, e'⟩ := ih.vs v hv
        subst e; subst e'
        rw [hρ0.inj i j hi hj h]
      have at2 : ∀ j, ws.length ≤ j → j < ws.length + x.vs.length → ∀ v, (things ws (x.vs.map ρ) v)[j]? = (x.vs[j - ws.length]?).map ρ := fun j h1 h2 v => by
        rw [things_at2 h1 (by rw [lv]; exact h2), List.getElem?_map]
      have sg : sgn ws (x.vs.map ρ) (ρ mk) = s := by
        rcases kind with ⟨h1, a, h2, h3⟩ | ⟨h1, h2, h3⟩ | ⟨h1, h2, h3⟩
        · have ea : ρ mk = a := by rw [h3]; exact hρ.wd a (List.mem_of_getElem? h2)
          rw [ea]
          refine sgn_of (by rw [things_at1 h1]; exact h2) fun j hj e => ?_
          rw [things_at1 (by omega)] at e
          have := nodup_get hw e h2
          omega
        · have hm := List.mem_of_getElem? h3
          refine sgn_of (by rw [at2 s h1 h2, h3]; rfl) fun j hj e => ?_
          by_cases hj1 : j < ws.length
          · rw [things_at1 hj1] at e
            exact vnw _ hm (List.mem_of_getElem? e)
          · rw [at2 j (by omega) (by omega)] at e
            obtain ⟨u, hu, e⟩ := Option.map_eq_some_iff.mp e
            have := vinj _ (List.mem_of_getElem? hu) _ hm e
            subst this
            have := nodup_get ih.nd hu h3
            omega
        · subst h2
          have hn : x.many < (sy1 L ws x s).many := by omega
          refine sgn_of ?_ fun j hj e => ?_
          · rw [h1]
            have := things_at3 (ws := ws) (vs := x.vs.map ρ) (v := ρ (.inr x.many))
            rw [lv] at this; exact this
          · by_cases hj1 : j < ws.length
            · rw [things_at1 hj1] at e
              exact hρ.nw _ hn (List.mem_of_getElem? e)
            · rw [at2 j (by omega) (by omega)] at e
              obtain ⟨u, hu, e⟩ := Option.map_eq_some_iff.mp e
              obtain ⟨i, hi, e'⟩ := ih.vs u (List.mem_of_getElem? hu)
              subst e'
              have := hρ.inj i x.many (by omega) hn e
              omega
      constructor
      · show rd1 L ws (x.q, x.vs.map ρ) (ρ mk) = _
        unfold rd1
        show nxt L ws (x.q, x.vs.map ρ) (sgn ws (x.vs.map ρ) (ρ mk)) (ρ mk) = _
        rw [sg]
        show ((ent L x.q s).to, picks (things ws (x.vs.map ρ) (ρ mk)) (ent L x.q s).fills) = ((ent L x.q s).to, (picks (syT ws x) (ent L x.q s).fills).map ρ)
        congr 1
        rw [← picks_map]
        refine picks_congr fun f hf => ?_
        obtain ⟨f1, f2⟩ := e4.fr f hf
        unfold syT
        by_cases hf2 : f < ws.length + x.vs.length
        · rw [at2 f f1 hf2, List.getElem?_map, things_at2 (by rw [hlen']; exact f1) (by rw [hlen']; exact hf2), hlen']
        · have hfe : f = ws.length + x.vs.length := by have := hand_le ws.length x.vs.length s; omega
          have hse : s = ws.length + x.vs.length := by
            unfold hand at f2
            by_cases z : s = ws.length + x.vs.length
            · exact z
            · rw [if_neg z] at f2; omega
          rcases kind with ⟨h1, _⟩ | ⟨_, h1, _⟩ | ⟨_, h1, _⟩
          · omega
          · omega
          · subst h1
            have a1 := things_at3 (ws := ws) (vs := x.vs.map ρ) (v := ρ (.inr x.many))
            rw [lv] at a1
            have a2 := things_at3 (ws := ws.map (Sum.inl (β := Nat))) (vs := x.vs) (v := Sum.inr x.many)
            rw [hlen'] at a2
            rw [hfe, a1, List.getElem?_map, a2]; rfl
      · show w ++ [sgn ws (x.vs.map ρ) (ρ mk)] = w ++ [s]
        rw [sg]
/-- values for marks -/
abbrev Kn (α : Type) := List (Nat × α)
def kkeys (f : Kn α) : List Nat := f.map (·.1)
def fill : Kn α → List (Mk α) → List α → Kn α
  | kn, [], _ => kn
  | kn, .inl _ :: r, fr => fill kn r fr
  | kn, .inr k :: r, fr => if k ∈ kkeys kn then fill kn r fr else match fr with
    | f :: fr => fill (kn ++ [(k, f)]) r fr
    | [] => kn
def look (kn : Kn α) (d : α) : Mk α → α
  | .inl a => a
  | .inr k => ((kn.find? fun q => decide (q.1 = k)).map (·.2)).getD d
structure KInv (ws : List α) (kn : Kn α) : Prop where
  k : (kkeys kn).Nodup
  v : (kn.map (·.2)).Nodup
  w : ∀ q ∈ kn, q.2 ∉ ws
theorem fill_ok {ws : List α} : ∀ (ms : List (Mk α)) (kn : Kn α) (fr : List α), KInv ws kn → fr.Nodup → (∀ f ∈ fr, f ∉ ws ∧ f ∉ kn.map (·.2)) → ms.length ≤ fr.length →
    KInv ws (fill kn ms fr) ∧ (∃ g, fill kn ms fr = kn ++ g) ∧ ∀ k, Sum.inr k ∈ ms → k ∈ kkeys (fill kn ms fr)
  | [], kn, fr, h, _, _, _ => ⟨h, ⟨[], by simp [fill]⟩, fun k hk => by cases hk⟩
  | .inl a :: r, kn, fr, h, hn, hf, hl => by
    obtain ⟨a1, a2, a3⟩ := fill_ok r kn fr h hn hf (by simp at hl; omega)
    refine ⟨a1, a2, fun k hk => ?_⟩
    rcases List.mem_cons.mp hk with e | e
    · cases e
    · exact a3 k e
  | .inr k0 :: r, kn, fr, h, hn, hf, hl => by
    unfold fill
    by_cases hk0 : k0 ∈ kkeys kn
    · rw [if_pos hk0]
      obtain ⟨a1, a2, a3⟩ := fill_ok r kn fr h hn hf (by simp at hl; omega)
      refine ⟨a1, a2, fun k hk => ?_⟩
      rcases List.mem_cons.mp hk with e | e
      · cases e
        obtain ⟨g, e⟩ := a2
        rw [e]
        unfold kkeys at hk0 ⊢
        rw [List.map_append]
        exact List.mem_append_left _ hk0
      · exact a3 k e
    · rw [if_neg hk0]
      cases fr with
      | nil => simp at hl
      | cons f fr =>
        have hn' := List.nodup_cons.mp hn
        have hf0 := hf f List.mem_cons_self
        have hi : KInv ws (kn ++ [(k0, f)]) := by
          refine ⟨?_, ?_, ?_⟩
          · unfold kkeys at hk0 ⊢
            rw [List.map_append, List.nodup_append]
            refine ⟨h.k, by simp, fun a ha b hb => ?_⟩
            simp at hb; subst hb
            exact fun z => hk0 (z ▸ ha)
          · rw [List.map_append, List.nodup_append]
            refine ⟨h.v, by simp, fun a ha b hb => ?_⟩
            simp at hb; subst hb
            exact fun z => hf0.2 (z ▸ ha)
          · intro q hq
            rcases List.mem_append.mp hq with e | e
            · exact h.w q e
            · have : q = (k0, f) := by simpa using e
              subst this; exact hf0.1
        obtain ⟨a1, ⟨g, a2⟩, a3⟩ := fill_ok r (kn ++ [(k0, f)]) fr hi hn'.2 (fun f' hf' => by
          refine ⟨(hf f' (List.mem_cons_of_mem _ hf')).1, fun z => ?_⟩
          rw [List.map_append] at z
          rcases List.mem_append.mp z with z | z
          · exact (hf f' (List.mem_cons_of_mem _ hf')).2 z
          · have : f' = f := by simpa using z
            subst this; exact hn'.1 hf') (by simp at hl; omega)
        refine ⟨a1, ⟨(k0, f) :: g, by show fill (kn ++ [(k0, f)]) r fr = _; rw [a2]; simp⟩, fun k hk => ?_⟩
        rcases List.mem_cons.mp hk with e | e
        · cases e
          show k0 ∈ kkeys (fill (kn ++ [(k0, f)]) r fr)
          rw [a2]
          simp [kkeys]
        · exact a3 k e
theorem look_mem {kn : Kn α} {d : α} {k : Nat} (h : k ∈ kkeys kn) : (k, look kn d (.inr k)) ∈ kn := by
  show (k, ((kn.find? fun q => decide (q.1 = k)).map (·.2)).getD d) ∈ kn
  cases q : kn.find? fun q => decide (q.1 = k) with
  | none =>
    rw [List.find?_eq_none] at q
    obtain ⟨x, hx, e⟩ := List.mem_map.mp h
    exact absurd (decide_eq_true e) (q x hx)
  | some x =>
    have h1 := List.mem_of_find?_eq_some q
    have h2 : x.1 = k := by simpa using List.find?_some q
    subst h2
    exact h1
theorem nodup_map_inj {β γ : Type} {f : β → γ} : ∀ {l : List β}, (l.map f).Nodup → ∀ {x y : β}, x ∈ l → y ∈ l → f x = f y → x = y
  | [], _, _, _, h, _, _ => by cases h
  | a :: l, hn, x, y, hx, hy, e => by
    rw [List.map_cons, List.nodup_cons] at hn
    rcases List.mem_cons.mp hx with hx' | hx' <;> rcases List.mem_cons.mp hy with hy' | hy'
    · rw [hx', hy']
    · rw [hx'] at e
      exact absurd (e ▸ List.mem_map_of_mem hy') hn.1
    · rw [hy'] at e
      exact absurd (e ▸ List.mem_map_of_mem hx') hn.1
    · exact nodup_map_inj hn.2 hx' hy' e
theorem look_eq {kn : Kn α} {d : α} (hk : (kkeys kn).Nodup) {k : Nat} {v : α} (h : (k, v) ∈ kn) : look kn d (.inr k) = v := by
  have h1 : k ∈ kkeys kn := List.mem_map.mpr ⟨_, h, rfl⟩
  have := nodup_map_inj hk (look_mem (d := d) h1) h rfl
  exact congrArg (·.2) this
theorem put_ok {ws : List α} {kn : Kn α} (h : KInv ws kn) {n : Nat} (hn : ∀ j, j < n → j ∈ kkeys kn) (d : α) : Put ws n (look kn d) := by
  refine ⟨fun _ _ => rfl, fun j hj => h.w _ (look_mem (hn j hj)), fun i j hi hj e => ?_⟩
  have := nodup_map_inj (f := fun q : Nat × α => q.2) h.v (look_mem (d := d) (hn i hi)) (look_mem (d := d) (hn j hj)) e
  exact congrArg (·.1) this
/-- the numbers of boxes -/
def nums : List (Mk α) → List Nat := fun ms => ms.filterMap fun m => match m with | .inr k => some k | .inl _ => none
theorem nums_eq : ∀ {ms : List (Mk α)}, (∀ m ∈ ms, ∃ j, m = .inr j) → (nums ms).map .inr = ms
  | [], _ => rfl
  | m :: ms, h => by
    obtain ⟨j, rfl⟩ := h m List.mem_cons_self
    have ih := nums_eq (ms := ms) fun m hm => h m (List.mem_cons_of_mem _ hm)
    unfold nums at ih ⊢
    simp [List.filterMap_cons, ih]
/-- the short row leads to its stand -/
theorem short_ok {B : List Nat} {L : Lines} {ws : List α} (hw : ws.Nodup) (hL : LOk ws.length B L) {w : List Nat} {k : Nat} (hp : Pth ws.length B L w k) {vals : List α} (hb : B[k]? = some vals.length) (hv : vals.Nodup) (hvw : ∀ v ∈ vals, v ∉ ws)
    {fr : List α} (hf : fr.Nodup) (hfw : ∀ f ∈ fr, f ∉ ws ∧ f ∉ vals) (hl : w.length ≤ fr.length) (d : α) :
    let x := sy L ws w
    let kn := fill ((nums x.vs).zip vals) x.found fr
    runS L ws (0, []) (x.found.map (look kn d)) = (k, vals) ∧ runG L ws (0, []) (x.found.map (look kn d)) = w ∧ ∀ j, Sum.inr j ∈ x.found → j ∈ kkeys kn := by
  intro x kn
  have I := sinv_ok hw hL hp
  have hvs : (nums x.vs).map Sum.inr = x.vs := nums_eq fun m hm => by
    obtain ⟨j, _, e⟩ := I.vs m hm
    exact ⟨j, e⟩
  have hlen : (nums x.vs).length = vals.length := by
    have h1 : B[k]? = some x.vs.length := I.b
    rw [hb] at h1
    have h2 : (nums x.vs).length = x.vs.length := by rw [← congrArg List.length hvs, List.length_map]
    rw [h2]; exact (Option.some_inj.mp h1).symm
  have hnn : (nums x.vs).Nodup := by
    have := I.nd
    rw [show (sy L ws w).vs = x.vs from rfl, ← hvs] at this
    exact (List.pairwise_map.mp this).imp fun h e => h (by rw [e])
  have hk0 : kkeys ((nums x.vs).zip vals) = nums x.vs := List.map_fst_zip (by omega)
  have hv0 : ((nums x.vs).zip vals).map (·.2) = vals := List.map_snd_zip (by omega)
  have K0 : KInv ws ((nums x.vs).zip vals) := ⟨by rw [hk0]; exact hnn, by rw [hv0]; exact hv, fun q hq => hvw _ (by rw [← hv0]; exact List.mem_map.mpr ⟨q, hq, rfl⟩)⟩
  obtain ⟨a1, ⟨g, a2⟩, a3⟩ := fill_ok x.found ((nums x.vs).zip vals) fr K0 hf (fun f h => by rw [hv0]; exact hfw f h) (by rw [I.len]; exact hl)
  have hput : Put ws x.many (look kn d) := put_ok a1 (fun j hj => a3 j (I.all j hj)) d
  obtain ⟨s1, s2⟩ := I.sim (look kn d) hput
  refine ⟨?_, s2, a3⟩
  refine s1.trans ?_
  have e1 : (sy L ws w).q = k := I.q
  rw [e1]
  congr 1
  show x.vs.map (look kn d) = vals
  rw [← hvs, List.map_map]
  refine List.ext_getElem (by simpa using hlen) fun i h1 h2 => ?_
  have h1' : i < (nums x.vs).length := by simpa using h1
  have hm : ((nums x.vs)[i], vals[i]) ∈ kn := by
    show _ ∈ fill ((nums x.vs).zip vals) x.found fr
    rw [a2]
    refine List.mem_append_left _ (List.mem_iff_getElem.mpr ⟨i, by simp; omega, by simp⟩)
  rw [List.getElem_map]
  exact look_eq (d := d) a1.k hm
end
end Kv.M

set_option Elab.async false
set_option linter.all false
set_option maxRecDepth 100000
set_option maxHeartbeats 4000000
set_option autoImplicit false
/-! the walk, printed by gen.py -/
namespace Kv.W
open PySem PySem.Spec L2 Kv
variable [Tbl]
def top (i : Nat) : Stmt := PySem.Challenge.pw_keptvalues_k46_streams_and_versions.main.body.getD i (.Pass ⟨0, 0, 0, 0⟩)
def g_FIGURES : P := .str "0123456789"
def g_FIRST : P := .tup [(.tup [(.int 0), (.tup [])])]
def g_MOST_ROW : P := .int 200
def g_MOST_SIGNS : P := .int 8
def g_SMALL : P := .str "abcdefghijklmnopqrstuvwxyz"
abbrev st_is_value : Stmt := top 9
abbrev st_is_row : Stmt := top 10
abbrev st_is_number : Stmt := top 12
abbrev st_unlike_of : Stmt := top 13
abbrev st_is_stand : Stmt := top 14
abbrev st_sign_at : Stmt := top 15
abbrev st_stand_behind : Stmt := top 16
abbrev st_first_stream : Stmt := top 19
abbrev st_is_stream : Stmt := top 20
abbrev st_present_stand : Stmt := top 21
abbrev st_fed : Stmt := top 22
abbrev st_taken_back : Stmt := top 23
abbrev st_values_kept : Stmt := top 24
abbrev st_says_yes_now : Stmt := top 25
abbrev st_fresh_values : Stmt := top 27
abbrev st_ways_to_modes : Stmt := top 28
abbrev st_marks_read : Stmt := top 29
abbrev st_short_row : Stmt := top 30
abbrev st__law_source : Stmt := top 32
abbrev st__law_pick : Stmt := top 33
abbrev st__law_of : Stmt := top 34
abbrev st__law_mixed : Stmt := top 35
abbrev st__law_machine : Stmt := top 36
abbrev st__law_read : Stmt := top 37
abbrev st__law_depths : Stmt := top 39
abbrev st__law_short_right : Stmt := top 40
abbrev st_law : Stmt := top 41
structure Txt (K : PySem.W.Frag) (mg : Str → Option Value) : Type where
  told : ToldF K mg "_law_told" "call" (top 38) [("NothingDone", "nothing"), ("NotOfIt", "not")] ["NothingDone", "NotOfIt"]
  a_is_value : Addr
  fd_is_value : FuncData
  F_is_value : L2.Fun K "is_value" "is_value" st_is_value a_is_value fd_is_value
  m_is_value : mg "is_value" = some (.ref a_is_value)
  bi_is_value : Binds K fd_is_value ["value"] []
  a_is_row : Addr
  fd_is_row : FuncData
  F_is_row : L2.Fun K "is_row" "is_row" st_is_row a_is_row fd_is_row
  m_is_row : mg "is_row" = some (.ref a_is_row)
  bi_is_row : Binds K fd_is_row ["value"] []
  a_is_number : Addr
  fd_is_number : FuncData
  F_is_number : L2.Fun K "is_number" "is_number" st_is_number a_is_number fd_is_number
  m_is_number : mg "is_number" = some (.ref a_is_number)
  bi_is_number : Binds K fd_is_number ["value", "many"] []
  a_unlike_of : Addr
  fd_unlike_of : FuncData
  F_unlike_of : L2.Fun K "unlike_of" "unlike_of" st_unlike_of a_unlike_of fd_unlike_of
  m_unlike_of : mg "unlike_of" = some (.ref a_unlike_of)
  bi_unlike_of : Binds K fd_unlike_of ["some"] []
  a_is_stand : Addr
  fd_is_stand : FuncData
  F_is_stand : L2.Fun K "is_stand" "is_stand" st_is_stand a_is_stand fd_is_stand
  m_is_stand : mg "is_stand" = some (.ref a_is_stand)
  bi_is_stand : Binds K fd_is_stand ["machine", "value"] []
  a_sign_at : Addr
  fd_sign_at : FuncData
  F_sign_at : L2.Fun K "sign_at" "sign_at" st_sign_at a_sign_at fd_sign_at
  m_sign_at : mg "sign_at" = some (.ref a_sign_at)
  bi_sign_at : Binds K fd_sign_at ["machine", "stand", "value"] []
  a_stand_behind : Addr
  fd_stand_behind : FuncData
  F_stand_behind : L2.Fun K "stand_behind" "stand_behind" st_stand_behind a_stand_behind fd_stand_behind
  m_stand_behind : mg "stand_behind" = some (.ref a_stand_behind)
  bi_stand_behind : Binds K fd_stand_behind ["machine", "stand", "value"] []
  a_first_stream : Addr
  fd_first_stream : FuncData
  F_first_stream : L2.Fun K "first_stream" "first_stream" st_first_stream a_first_stream fd_first_stream
  m_first_stream : mg "first_stream" = some (.ref a_first_stream)
  bi_first_stream : Binds K fd_first_stream [] []
  a_is_stream : Addr
  fd_is_stream : FuncData
  F_is_stream : L2.Fun K "is_stream" "is_stream" st_is_stream a_is_stream fd_is_stream
  m_is_stream : mg "is_stream" = some (.ref a_is_stream)
  bi_is_stream : Binds K fd_is_stream ["machine", "value"] []
  a_present_stand : Addr
  fd_present_stand : FuncData
  F_present_stand : L2.Fun K "present_stand" "present_stand" st_present_stand a_present_stand fd_present_stand
  m_present_stand : mg "present_stand" = some (.ref a_present_stand)
  bi_present_stand : Binds K fd_present_stand ["stream"] []
  a_fed : Addr
  fd_fed : FuncData
  F_fed : L2.Fun K "fed" "fed" st_fed a_fed fd_fed
  m_fed : mg "fed" = some (.ref a_fed)
  bi_fed : Binds K fd_fed ["machine", "stream", "row"] []
  a_taken_back : Addr
  fd_taken_back : FuncData
  F_taken_back : L2.Fun K "taken_back" "taken_back" st_taken_back a_taken_back fd_taken_back
  m_taken_back : mg "taken_back" = some (.ref a_taken_back)
  bi_taken_back : Binds K fd_taken_back ["stream"] []
  a_values_kept : Addr
  fd_values_kept : FuncData
  F_values_kept : L2.Fun K "values_kept" "values_kept" st_values_kept a_values_kept fd_values_kept
  m_values_kept : mg "values_kept" = some (.ref a_values_kept)
  bi_values_kept : Binds K fd_values_kept ["stream"] []
  a_says_yes_now : Addr
  fd_says_yes_now : FuncData
  F_says_yes_now : L2.Fun K "says_yes_now" "says_yes_now" st_says_yes_now a_says_yes_now fd_says_yes_now
  m_says_yes_now : mg "says_yes_now" = some (.ref a_says_yes_now)
  bi_says_yes_now : Binds K fd_says_yes_now ["machine", "stream"] []
  a_fresh_values : Addr
  fd_fresh_values : FuncData
  F_fresh_values : L2.Fun K "fresh_values" "fresh_values" st_fresh_values a_fresh_values fd_fresh_values
  m_fresh_values : mg "fresh_values" = some (.ref a_fresh_values)
  bi_fresh_values : Binds K fd_fresh_values ["words", "held", "many"] []
  a_ways_to_modes : Addr
  fd_ways_to_modes : FuncData
  F_ways_to_modes : L2.Fun K "ways_to_modes" "ways_to_modes" st_ways_to_modes a_ways_to_modes fd_ways_to_modes
  m_ways_to_modes : mg "ways_to_modes" = some (.ref a_ways_to_modes)
  bi_ways_to_modes : Binds K fd_ways_to_modes ["machine"] []
  a_marks_read : Addr
  fd_marks_read : FuncData
  F_marks_read : L2.Fun K "marks_read" "marks_read" st_marks_read a_marks_read fd_marks_read
  m_marks_read : mg "marks_read" = some (.ref a_marks_read)
  bi_marks_read : Binds K fd_marks_read ["machine", "signs"] []
  a_short_row : Addr
  fd_short_row : FuncData
  F_short_row : L2.Fun K "short_row" "short_row" st_short_row a_short_row fd_short_row
  m_short_row : mg "short_row" = some (.ref a_short_row)
  bi_short_row : Binds K fd_short_row ["machine", "stand"] []
  a__law_source : Addr
  fd__law_source : FuncData
  F__law_source : L2.Fun K "_law_source" "_law_source" st__law_source a__law_source fd__law_source
  m__law_source : mg "_law_source" = some (.ref a__law_source)
  bi__law_source : Binds K fd__law_source ["script"] []
  a__law_pick : Addr
  fd__law_pick : FuncData
  F__law_pick : L2.Fun K "_law_pick" "_law_pick" st__law_pick a__law_pick fd__law_pick
  m__law_pick : mg "_law_pick" = some (.ref a__law_pick)
  bi__law_pick : Binds K fd__law_pick ["source", "many"] []
  a__law_of : Addr
  fd__law_of : FuncData
  F__law_of : L2.Fun K "_law_of" "_law_of" st__law_of a__law_of fd__law_of
  m__law_of : mg "_law_of" = some (.ref a__law_of)
  bi__law_of : Binds K fd__law_of ["source", "some"] []
  a__law_mixed : Addr
  fd__law_mixed : FuncData
  F__law_mixed : L2.Fun K "_law_mixed" "_law_mixed" st__law_mixed a__law_mixed fd__law_mixed
  m__law_mixed : mg "_law_mixed" = some (.ref a__law_mixed)
  bi__law_mixed : Binds K fd__law_mixed ["source", "things"] []
  a__law_machine : Addr
  fd__law_machine : FuncData
  F__law_machine : L2.Fun K "_law_machine" "_law_machine" st__law_machine a__law_machine fd__law_machine
  m__law_machine : mg "_law_machine" = some (.ref a__law_machine)
  bi__law_machine : Binds K fd__law_machine ["source", "words"] []
  a__law_read : Addr
  fd__law_read : FuncData
  F__law_read : L2.Fun K "_law_read" "_law_read" st__law_read a__law_read fd__law_read
  m__law_read : mg "_law_read" = some (.ref a__law_read)
  bi__law_read : Binds K fd__law_read ["machine", "stand", "row"] []
  a__law_depths : Addr
  fd__law_depths : FuncData
  F__law_depths : L2.Fun K "_law_depths" "_law_depths" st__law_depths a__law_depths fd__law_depths
  m__law_depths : mg "_law_depths" = some (.ref a__law_depths)
  bi__law_depths : Binds K fd__law_depths ["machine"] []
  a__law_short_right : Addr
  fd__law_short_right : FuncData
  c__law_short_right : Addr
  P__law_short_right : Addr
  F__law_short_right : FunC K "_law_short_right" "_law_short_right" st__law_short_right a__law_short_right fd__law_short_right (.ref c__law_short_right)
  m__law_short_right : mg "_law_short_right" = some (.ref a__law_short_right)
  bi__law_short_right : Binds K fd__law_short_right ["machine", "stand"] []
  a_law : Addr
  fd_law : FuncData
  c_law : Addr
  P_law : Addr
  F_law : FunC K "law" "law" st_law a_law fd_law (.ref c_law)
  m_law : mg "law" = some (.ref a_law)
  bi_law : Binds K fd_law ["script"] []
  x_NotOfIt : XCls K mg "NotOfIt"
  x_NothingDone : XCls K mg "NothingDone"
  b_abs : mg "abs" = none
  b_all : mg "all" = none
  b_bool : mg "bool" = none
  b_dict : mg "dict" = none
  b_enumerate : mg "enumerate" = none
  b_int : mg "int" = none
  b_isinstance : mg "isinstance" = none
  b_len : mg "len" = none
  b_list : mg "list" = none
  b_max : mg "max" = none
  b_range : mg "range" = none
  b_repr : mg "repr" = none
  b_str : mg "str" = none
  b_tuple : mg "tuple" = none
  b_zip : mg "zip" = none
  u_FIGURES : Value
  v_FIGURES : V
  m_FIGURES : mg "FIGURES" = some u_FIGURES
  r_FIGURES : RelV v_FIGURES u_FIGURES
  p_FIGURES : ∀ H, RP K H g_FIGURES v_FIGURES
  u_FIRST : Value
  v_FIRST : V
  m_FIRST : mg "FIRST" = some u_FIRST
  r_FIRST : RelV v_FIRST u_FIRST
  p_FIRST : ∀ H, RP K H g_FIRST v_FIRST
  u_MOST_ROW : Value
  v_MOST_ROW : V
  m_MOST_ROW : mg "MOST_ROW" = some u_MOST_ROW
  r_MOST_ROW : RelV v_MOST_ROW u_MOST_ROW
  p_MOST_ROW : ∀ H, RP K H g_MOST_ROW v_MOST_ROW
  u_MOST_SIGNS : Value
  v_MOST_SIGNS : V
  m_MOST_SIGNS : mg "MOST_SIGNS" = some u_MOST_SIGNS
  r_MOST_SIGNS : RelV v_MOST_SIGNS u_MOST_SIGNS
  p_MOST_SIGNS : ∀ H, RP K H g_MOST_SIGNS v_MOST_SIGNS
  u_SMALL : Value
  v_SMALL : V
  m_SMALL : mg "SMALL" = some u_SMALL
  r_SMALL : RelV v_SMALL u_SMALL
  p_SMALL : ∀ H, RP K H g_SMALL v_SMALL
structure TxtB {K : PySem.W.Frag} {mg : Str → Option Value} (T : Txt K mg) (base : Heap) : Prop where
  tb__law_short_right : LamX.TabB base mg T.c__law_short_right T.P__law_short_right
  in__law_short_right : (T.P__law_short_right, lamQ "_law_short_right") ∈ Tbl.t
  un__law_short_right : ∀ p ∈ Tbl.t, p.1 = T.P__law_short_right → p.2 = lamQ "_law_short_right"
  tb_law : LamX.TabB base mg T.c_law T.P_law
  in_law : (T.P_law, lamQ "law") ∈ Tbl.t
  un_law : ∀ p ∈ Tbl.t, p.1 = T.P_law → p.2 = lamQ "law"
section
variable {P : Program} {w : World} {K : PySem.W.Frag} {mg : Str → Option Value} {base : Heap}
/-! ### is_value -/
theorem sc_is_value : FnScope ["value", "sign"] ["value"] (defScope st_is_value) := ⟨rfl, rfl, rfl, by decide +kernel, rfl, by decide +kernel, by decide +kernel⟩
noncomputable def b_is_value : X3 := (seqS (ifS (orB (notB (tst (e1 (isiO "str") (rd 0)))) (notB (tst (chE (fun i j => decide (i < j)) (fun i j => decide (i ≤ j)) (cE (.int 0)) (e1 lenS (rd 0)) (cE g_MOST_SIGNS))))) (retS (cE (.bl false))) skipS)
    (retS (e1 allO (lcE (stI (rd 0)) [1] (nmT 1) yesB (e2 inSE (rd 1) (e2 catS (cE g_SMALL) (cE g_FIGURES)))))))
noncomputable def F_is_value : FnS := fnE 1 b_is_value
theorem ok_is_value (T : Txt K mg) : FnOk P w K mg base (L2.CX P w) 1 T.a_is_value T.fd_is_value ["value"] (spK K mg [false] F_is_value) :=
  fn_ok T.F_is_value sc_is_value rfl rfl fun cdv A outer s H E hr => by
    have hu64 := hr.units
    have hu1 := hu_of hr
    have tk : Takes (cxOf (L2.CX P w) P w K mg base ["value", "sign"] "is_value" (defScope st_is_value) T.a_is_value cdv A outer s H E) (fun cls d _ H => E cls d H) := takes_of rfl rfl rfl rfl
    have hx := passes_call tk (fun _ _ _ _ h => h)
    exact (b_cons (s_if (m_tw (w_or (q_tnot (q_tst (m_isi (T := "str") T.b_isinstance T.b_str (by rfl) (q_rd (pv 0))))) (w_or1 (q_tnot (q_tchain op_lt op_le q_int (m_lenS T.b_len (q_rd (pv 0))) (q_c (pe_glob (by rfl) T.m_MOST_SIGNS T.r_MOST_SIGNS) T.p_MOST_SIGNS)))))) (b_one (s_ret q_bl)) b_nil)
    (b_one (s_ret (m_all (by rfl) T.b_all (q_lc (by rfl) sc_is_value.nd (i_str (q_rd (pv 0))) (blkOk_by (own := [("sign", 1)]) (by rfl)) (fun _ _ _ _ _ => (g_name (ws := (([("sign", 1)] : List (Str × Nat)).map (·.2))) (pg_name sc_is_value.nd (by rfl) (by first | exact Or.inl rfl | exact Or.inr rfl)))) (fun _ _ _ _ _ => f_nil) (fun _ _ _ _ _ => (q_inS (q_rd (pv 1)) (q_catS (q_c (pe_glob (by rfl) T.m_SMALL T.r_SMALL) T.p_SMALL) (q_c (pe_glob (by rfl) T.m_FIGURES T.r_FIGURES) T.p_FIGURES)))))))))
/-! ### is_row -/
theorem sc_is_row : FnScope ["value", "one"] ["value"] (defScope st_is_row) := ⟨rfl, rfl, rfl, by decide +kernel, rfl, by decide +kernel, by decide +kernel⟩
noncomputable def b_is_row : X3 := (retS (andE (e1 (isiO "tuple") (rd 0)) (andE (e2 leI (e1 lenE (rd 0)) (cE g_MOST_ROW)) (e1 allO (lcE (sqI (rd 0)) [1] (nmT 1) yesB (callN [false] F_is_value (conA (rd 1) nilA)))))))
noncomputable def F_is_row : FnS := fnE 1 b_is_row
theorem ok_is_row (T : Txt K mg) : FnOk P w K mg base (L2.CX P w) 2 T.a_is_row T.fd_is_row ["value"] (spK K mg [false] F_is_row) :=
  fn_ok T.F_is_row sc_is_row rfl rfl fun cdv A outer s H E hr => by
    have hu64 := hr.units
    have hu1 := hu_of hr
    have tk : Takes (cxOf (L2.CX P w) P w K mg base ["value", "one"] "is_row" (defScope st_is_row) T.a_is_row cdv A outer s H E) (fun cls d _ H => E cls d H) := takes_of rfl rfl rfl rfl
    have hx := passes_call tk (fun _ _ _ _ h => h)
    exact (b_one (s_ret (q_and (m_isi (T := "tuple") T.b_isinstance T.b_tuple (by rfl) (q_rd (pv 0))) (q_and (q_le (m_len T.b_len (q_rd (pv 0))) (q_c (pe_glob (by rfl) T.m_MOST_ROW T.r_MOST_ROW) T.p_MOST_ROW)) (q_one (m_all (by rfl) T.b_all (q_lc (by rfl) sc_is_row.nd (i_sq (q_rd (pv 0))) (blkOk_by (own := [("one", 1)]) (by rfl)) (fun _ _ _ _ _ => (g_name (ws := (([("one", 1)] : List (Str × Nat)).map (·.2))) (pg_name sc_is_row.nd (by rfl) (by first | exact Or.inl rfl | exact Or.inr rfl)))) (fun _ _ _ _ _ => f_nil) (fun _ _ _ _ _ => (q_call (ok_is_value T) (hr.mono (by decide)) (by rfl) T.m_is_value T.F_is_value.kp T.bi_is_value passL (q_con (q_rd (pv 1)) q_nil))))))))))
/-! ### is_number -/
theorem sc_is_number : FnScope ["value", "many"] ["value", "many"] (defScope st_is_number) := ⟨rfl, rfl, rfl, by decide +kernel, rfl, by decide +kernel, by decide +kernel⟩
noncomputable def b_is_number : X3 := (retS (andE (e1 (isiO "int") (rd 0)) (andE (e1 notE (e1 (isiO "bool") (rd 0))) (chE (fun i j => decide (i ≤ j)) (fun i j => decide (i < j)) (cE (.int 0)) (rd 0) (rd 1)))))
noncomputable def F_is_number : FnS := fnE 0 b_is_number
theorem ok_is_number (T : Txt K mg) : FnOk P w K mg base (L2.CX P w) 1 T.a_is_number T.fd_is_number ["value", "many"] (spK K mg [false, false] F_is_number) :=
  fn_ok T.F_is_number sc_is_number rfl rfl fun cdv A outer s H E hr => by
    have hu64 := hr.units
    have hu1 := hu_of hr
    have tk : Takes (cxOf (L2.CX P w) P w K mg base ["value", "many"] "is_number" (defScope st_is_number) T.a_is_number cdv A outer s H E) (fun cls d _ H => E cls d H) := takes_of rfl rfl rfl rfl
    have hx := passes_call tk (fun _ _ _ _ h => h)
    exact (b_one (s_ret (q_and (m_isi (T := "int") T.b_isinstance T.b_int (by rfl) (q_rd (pv 0))) (q_and (q_not (m_isi (T := "bool") T.b_isinstance T.b_bool (by rfl) (q_rd (pv 0)))) (q_one (q_chain op_le op_lt q_int (q_rd (pv 0)) (q_rd (pv 1))))))))
/-! ### unlike_of -/
theorem sc_unlike_of : FnScope ["some", "one"] ["some"] (defScope st_unlike_of) := ⟨rfl, rfl, rfl, by decide +kernel, rfl, by decide +kernel, by decide +kernel⟩
noncomputable def b_unlike_of : X3 := (retS (e1 lsdO (e1 dctO (lcE (sqI (rd 0)) [1] (nmT 1) yesB (tupE (conA (rd 1) (conA (cE (.bl true)) nilA)))))))
noncomputable def F_unlike_of : FnS := fnE 1 b_unlike_of
theorem ok_unlike_of (T : Txt K mg) : FnOk P w K mg base (L2.CX P w) 1 T.a_unlike_of T.fd_unlike_of ["some"] (spK K mg [false] F_unlike_of) :=
  fn_ok T.F_unlike_of sc_unlike_of rfl rfl fun cdv A outer s H E hr => by
    have hu64 := hr.units
    have hu1 := hu_of hr
    have tk : Takes (cxOf (L2.CX P w) P w K mg base ["some", "one"] "unlike_of" (defScope st_unlike_of) T.a_unlike_of cdv A outer s H E) (fun cls d _ H => E cls d H) := takes_of rfl rfl rfl rfl
    have hx := passes_call tk (fun _ _ _ _ h => h)
    exact (b_one (s_ret (m_lsd (by rfl) T.b_list (m_dict (by rfl) T.b_dict (q_lc (by rfl) sc_unlike_of.nd (i_sq (q_rd (pv 0))) (blkOk_by (own := [("one", 1)]) (by rfl)) (fun _ _ _ _ _ => (g_name (ws := (([("one", 1)] : List (Str × Nat)).map (·.2))) (pg_name sc_unlike_of.nd (by rfl) (by first | exact Or.inl rfl | exact Or.inr rfl)))) (fun _ _ _ _ _ => f_nil) (fun _ _ _ _ _ => (q_tup (q_con (q_rd (pv 1)) (q_con q_bl q_nil)))))))))
/-! ### is_stand -/
theorem sc_is_stand : FnScope ["machine", "value", "one"] ["machine", "value"] (defScope st_is_stand) := ⟨rfl, rfl, rfl, by decide +kernel, rfl, by decide +kernel, by decide +kernel⟩
noncomputable def b_is_stand : X3 := (seqS (ifS (orB (notB (tst (e1 (isiO "tuple") (rd 1)))) (orB (tst (e2 neE (e1 lenE (rd 1)) (cE (.int 2)))) (notB (tst (callN [false, false] F_is_number (conA (e2 ixD (rd 1) (cE (.int 0))) (conA (e1 lenE (e2 ixD (rd 0) (cE (.int 1)))) nilA))))))) (retS (cE (.bl false))) skipS)
    (seqS (ifS (orB (notB (tst (callN [false] F_is_row (conA (e2 ixD (rd 1) (cE (.int 1))) nilA)))) (tst (e2 neE (e1 lenE (e2 ixD (rd 1) (cE (.int 1)))) (e2 ixD (e2 ixD (rd 0) (cE (.int 1))) (e2 ixD (rd 1) (cE (.int 0))))))) (retS (cE (.bl false))) skipS)
    (retS (andE (e2 eqE (lcE (sqI (e2 ixD (rd 1) (cE (.int 1)))) [2] (nmT 2) (tst (e2 inE (rd 2) (e2 ixD (rd 0) (cE (.int 0))))) (rd 2)) (lstE nilA)) (e2 eqE (e1 lenE (callN [false] F_unlike_of (conA (e2 ixD (rd 1) (cE (.int 1))) nilA))) (e1 lenE (e2 ixD (rd 1) (cE (.int 1)))))))))
noncomputable def F_is_stand : FnS := fnE 1 b_is_stand
theorem ok_is_stand (T : Txt K mg) : FnOk P w K mg base (L2.CX P w) 3 T.a_is_stand T.fd_is_stand ["machine", "value"] (spK K mg [false, false] F_is_stand) :=
  fn_ok T.F_is_stand sc_is_stand rfl rfl fun cdv A outer s H E hr => by
    have hu64 := hr.units
    have hu1 := hu_of hr
    have tk : Takes (cxOf (L2.CX P w) P w K mg base ["machine", "value", "one"] "is_stand" (defScope st_is_stand) T.a_is_stand cdv A outer s H E) (fun cls d _ H => E cls d H) := takes_of rfl rfl rfl rfl
    have hx := passes_call tk (fun _ _ _ _ h => h)
    exact (b_cons (s_if (m_tw (w_or (q_tnot (q_tst (m_isi (T := "tuple") T.b_isinstance T.b_tuple (by rfl) (q_rd (pv 1))))) (w_or (m_tcmp (q_ne hu64 (m_len T.b_len (q_rd (pv 1))) q_int)) (w_or1 (q_tnot (q_tst (q_call (ok_is_number T) (hr.mono (by decide)) (by rfl) T.m_is_number T.F_is_number.kp T.bi_is_number hx (q_con (m_ix (q_rd (pv 1)) q_int) (q_con (m_len T.b_len (m_ix (q_rd (pv 0)) q_int)) q_nil))))))))) (b_one (s_ret q_bl)) b_nil)
    (b_cons (s_if (m_tw (w_or (q_tnot (q_tst (q_call (ok_is_row T) (hr.mono (by decide)) (by rfl) T.m_is_row T.F_is_row.kp T.bi_is_row hx (q_con (m_ix (q_rd (pv 1)) q_int) q_nil)))) (w_or1 (m_tcmp (q_ne hu64 (m_len T.b_len (m_ix (q_rd (pv 1)) q_int)) (m_ix (m_ix (q_rd (pv 0)) q_int) (m_ix (q_rd (pv 1)) q_int))))))) (b_one (s_ret q_bl)) b_nil)
    (b_one (s_ret (q_and (q_eq hu64 (q_lc (by rfl) sc_is_stand.nd (i_sq (m_ix (q_rd (pv 1)) q_int)) (blkOk_by (own := [("one", 2)]) (by rfl)) (fun _ _ _ _ _ => (g_name (ws := (([("one", 2)] : List (Str × Nat)).map (·.2))) (pg_name sc_is_stand.nd (by rfl) (by first | exact Or.inl rfl | exact Or.inr rfl)))) (fun _ _ _ _ _ => (f_one (B := []) (m_tcmp (q_in (q_rd (pv 2)) (m_ix (q_rd (pv 0)) q_int))))) (fun _ _ _ _ _ => (q_rd (pv 2)))) (q_lst q_nil)) (q_one (q_eq hu64 (m_len T.b_len (q_call (ok_unlike_of T) (hr.mono (by decide)) (by rfl) T.m_unlike_of T.F_unlike_of.kp T.bi_unlike_of hx (q_con (m_ix (q_rd (pv 1)) q_int) q_nil))) (m_len T.b_len (m_ix (q_rd (pv 1)) q_int)))))))))
/-! ### sign_at -/
theorem sc_sign_at : FnScope ["machine", "stand", "value", "words", "boxes", "yes", "steps"] ["machine", "stand", "value"] (defScope st_sign_at) := ⟨rfl, rfl, rfl, by decide +kernel, rfl, by decide +kernel, by decide +kernel⟩
noncomputable def b_sign_at : X3 := (seqS (asgS (tupT 4 (conT (nmT 3) (conT (nmT 4) (conT (nmT 5) (conT (nmT 6) nilT))))) (rd 0))
    (seqS (ifS (tst (e2 inE (rd 2) (rd 3))) (retS (e2r isT (ixO tseq) (rd 3) (rd 2))) skipS)
    (retS (e2 addI (e1 lenE (rd 3)) (ifE (tst (e2 inE (rd 2) (e2 ixD (rd 1) (cE (.int 1))))) (e2r isT (ixO tseq) (e2 ixD (rd 1) (cE (.int 1))) (rd 2)) (e1 lenE (e2 ixD (rd 1) (cE (.int 1)))))))))
noncomputable def F_sign_at : FnS := fnE 4 b_sign_at
theorem ok_sign_at (T : Txt K mg) : FnOk P w K mg base (L2.CX P w) 1 T.a_sign_at T.fd_sign_at ["machine", "stand", "value"] (spK K mg [false, false, false] F_sign_at) :=
  fn_ok T.F_sign_at sc_sign_at rfl rfl fun cdv A outer s H E hr => by
    have hu64 := hr.units
    have hu1 := hu_of hr
    have tk : Takes (cxOf (L2.CX P w) P w K mg base ["machine", "stand", "value", "words", "boxes", "yes", "steps"] "sign_at" (defScope st_sign_at) T.a_sign_at cdv A outer s H E) (fun cls d _ H => E cls d H) := takes_of rfl rfl rfl rfl
    have hx := passes_call tk (fun _ _ _ _ h => h)
    exact (b_cons (s_asg (q_rd (pv 0)) (g_tup (by rfl) (g_cons (g_name (ws := [3, 4, 5, 6]) (pg_name sc_sign_at.nd (by rfl) (by first | exact Or.inl rfl | exact Or.inr rfl))) (g_cons (g_name (ws := [3, 4, 5, 6]) (pg_name sc_sign_at.nd (by rfl) (by first | exact Or.inl rfl | exact Or.inr rfl))) (g_cons (g_name (ws := [3, 4, 5, 6]) (pg_name sc_sign_at.nd (by rfl) (by first | exact Or.inl rfl | exact Or.inr rfl))) (g_cons (g_name (ws := [3, 4, 5, 6]) (pg_name sc_sign_at.nd (by rfl) (by first | exact Or.inl rfl | exact Or.inr rfl))) g_nil))))))
    (b_cons (s_if (m_tcmp (q_in (q_rd (pv 2)) (q_rd (pv 3)))) (b_one (s_ret (m_ixT (q_rd (pv 3)) (q_rd (pv 2))))) b_nil)
    (b_one (s_ret (q_add (m_len T.b_len (q_rd (pv 3))) (q_if (m_tcmp (q_in (q_rd (pv 2)) (m_ix (q_rd (pv 1)) q_int))) (m_ixT (m_ix (q_rd (pv 1)) q_int) (q_rd (pv 2))) (m_len T.b_len (m_ix (q_rd (pv 1)) q_int))))))))
/-! ### stand_behind -/
theorem sc_stand_behind : FnScope ["machine", "stand", "value", "sign", "things", "answer", "mode", "fills", "thing"] ["machine", "stand", "value"] (defScope st_stand_behind) := ⟨rfl, rfl, rfl, by decide +kernel, rfl, by decide +kernel, by decide +kernel⟩
noncomputable def b_stand_behind : X3 := (seqS (asgS (nmT 3) (callN [false, false, false] F_sign_at (conA (rd 0) (conA (rd 1) (conA (rd 2) nilA)))))
    (seqS (asgS (nmT 4) (tupE (starA (e2 ixD (rd 0) (cE (.int 0))) (starA (e2 ixD (rd 1) (cE (.int 1))) (conA (rd 2) nilA)))))
    (seqS (asgS (tupT 3 (conT (nmT 5) (conT (nmT 6) (conT (nmT 7) nilT)))) (e2 ixD (e2 ixD (e2 ixD (rd 0) (cE (.int 3))) (e2 ixD (rd 1) (cE (.int 0)))) (rd 3)))
    (retS (tupE (conA (e1 tupO (lcE (sqI (rd 5)) [8] (nmT 8) yesB (e2 ixD (rd 4) (rd 8)))) (conA (tupE (conA (rd 6) (conA (e1 tupO (lcE (sqI (rd 7)) [8] (nmT 8) yesB (e2 ixD (rd 4) (rd 8)))) nilA))) nilA)))))))
noncomputable def F_stand_behind : FnS := fnE 6 b_stand_behind
theorem ok_stand_behind (T : Txt K mg) : FnOk P w K mg base (L2.CX P w) 2 T.a_stand_behind T.fd_stand_behind ["machine", "stand", "value"] (spK K mg [false, false, false] F_stand_behind) :=
  fn_ok T.F_stand_behind sc_stand_behind rfl rfl fun cdv A outer s H E hr => by
    have hu64 := hr.units
    have hu1 := hu_of hr
    have tk : Takes (cxOf (L2.CX P w) P w K mg base ["machine", "stand", "value", "sign", "things", "answer", "mode", "fills", "thing"] "stand_behind" (defScope st_stand_behind) T.a_stand_behind cdv A outer s H E) (fun cls d _ H => E cls d H) := takes_of rfl rfl rfl rfl
    have hx := passes_call tk (fun _ _ _ _ h => h)
    exact (b_cons (s_asg (q_call (ok_sign_at T) (hr.mono (by decide)) (by rfl) T.m_sign_at T.F_sign_at.kp T.bi_sign_at hx (q_con (q_rd (pv 0)) (q_con (q_rd (pv 1)) (q_con (q_rd (pv 2)) q_nil)))) (g_name (ws := [3]) (pg_name sc_stand_behind.nd (by rfl) (by first | exact Or.inl rfl | exact Or.inr rfl))))
    (b_cons (s_asg (q_tup (q_star (m_ix (q_rd (pv 0)) q_int) (q_star (m_ix (q_rd (pv 1)) q_int) (q_con (q_rd (pv 2)) q_nil)))) (g_name (ws := [4]) (pg_name sc_stand_behind.nd (by rfl) (by first | exact Or.inl rfl | exact Or.inr rfl))))
    (b_cons (s_asg (m_ix (m_ix (m_ix (q_rd (pv 0)) q_int) (m_ix (q_rd (pv 1)) q_int)) (q_rd (pv 3))) (g_tup (by rfl) (g_cons (g_name (ws := [5, 6, 7]) (pg_name sc_stand_behind.nd (by rfl) (by first | exact Or.inl rfl | exact Or.inr rfl))) (g_cons (g_name (ws := [5, 6, 7]) (pg_name sc_stand_behind.nd (by rfl) (by first | exact Or.inl rfl | exact Or.inr rfl))) (g_cons (g_name (ws := [5, 6, 7]) (pg_name sc_stand_behind.nd (by rfl) (by first | exact Or.inl rfl | exact Or.inr rfl))) g_nil)))))
    (b_one (s_ret (q_tup (q_con (m_tuple T.b_tuple (q_lc (by rfl) sc_stand_behind.nd (i_sq (q_rd (pv 5))) (blkOk_by (own := [("thing", 8)]) (by rfl)) (fun _ _ _ _ _ => (g_name (ws := (([("thing", 8)] : List (Str × Nat)).map (·.2))) (pg_name sc_stand_behind.nd (by rfl) (by first | exact Or.inl rfl | exact Or.inr rfl)))) (fun _ _ _ _ _ => f_nil) (fun _ _ _ _ _ => (m_ix (q_rd (pv 4)) (q_rd (pv 8)))))) (q_con (q_tup (q_con (q_rd (pv 6)) (q_con (m_tuple T.b_tuple (q_lc (by rfl) sc_stand_behind.nd (i_sq (q_rd (pv 7))) (blkOk_by (own := [("thing", 8)]) (by rfl)) (fun _ _ _ _ _ => (g_name (ws := (([("thing", 8)] : List (Str × Nat)).map (·.2))) (pg_name sc_stand_behind.nd (by rfl) (by first | exact Or.inl rfl | exact Or.inr rfl)))) (fun _ _ _ _ _ => f_nil) (fun _ _ _ _ _ => (m_ix (q_rd (pv 4)) (q_rd (pv 8)))))) q_nil))) q_nil))))))))
/-! ### first_stream -/
theorem sc_first_stream : FnScope [] [] (defScope st_first_stream) := ⟨rfl, rfl, rfl, by decide +kernel, rfl, by decide +kernel, by decide +kernel⟩
noncomputable def b_first_stream : X3 := (retS (cE g_FIRST))
noncomputable def F_first_stream : FnS := fnE 0 b_first_stream
theorem ok_first_stream (T : Txt K mg) : FnOk P w K mg base (L2.CX P w) 1 T.a_first_stream T.fd_first_stream [] (spK K mg [] F_first_stream) :=
  fn_ok T.F_first_stream sc_first_stream rfl rfl fun cdv A outer s H E hr => by
    have hu64 := hr.units
    have hu1 := hu_of hr
    have tk : Takes (cxOf (L2.CX P w) P w K mg base [] "first_stream" (defScope st_first_stream) T.a_first_stream cdv A outer s H E) (fun cls d _ H => E cls d H) := takes_of rfl rfl rfl rfl
    have hx := passes_call tk (fun _ _ _ _ h => h)
    exact (b_one (s_ret (q_c (pe_glob (by rfl) T.m_FIRST T.r_FIRST) T.p_FIRST)))
/-! ### is_stream -/
theorem sc_is_stream : FnScope ["machine", "value", "one"] ["machine", "value"] (defScope st_is_stream) := ⟨rfl, rfl, rfl, by decide +kernel, rfl, by decide +kernel, by decide +kernel⟩
noncomputable def b_is_stream : X3 := (retS (andE (e1 (isiO "tuple") (rd 1)) (andE (e2 neE (rd 1) (tupE nilA)) (e1 allO (lcE (sqI (rd 1)) [2] (nmT 2) yesB (callN [false, false] F_is_stand (conA (rd 0) (conA (rd 2) nilA))))))))
noncomputable def F_is_stream : FnS := fnE 1 b_is_stream
theorem ok_is_stream (T : Txt K mg) : FnOk P w K mg base (L2.CX P w) 4 T.a_is_stream T.fd_is_stream ["machine", "value"] (spK K mg [false, false] F_is_stream) :=
  fn_ok T.F_is_stream sc_is_stream rfl rfl fun cdv A outer s H E hr => by
    have hu64 := hr.units
    have hu1 := hu_of hr
    have tk : Takes (cxOf (L2.CX P w) P w K mg base ["machine", "value", "one"] "is_stream" (defScope st_is_stream) T.a_is_stream cdv A outer s H E) (fun cls d _ H => E cls d H) := takes_of rfl rfl rfl rfl
    have hx := passes_call tk (fun _ _ _ _ h => h)
    exact (b_one (s_ret (q_and (m_isi (T := "tuple") T.b_isinstance T.b_tuple (by rfl) (q_rd (pv 1))) (q_and (q_ne hu64 (q_rd (pv 1)) (q_tup q_nil)) (q_one (m_all (by rfl) T.b_all (q_lc (by rfl) sc_is_stream.nd (i_sq (q_rd (pv 1))) (blkOk_by (own := [("one", 2)]) (by rfl)) (fun _ _ _ _ _ => (g_name (ws := (([("one", 2)] : List (Str × Nat)).map (·.2))) (pg_name sc_is_stream.nd (by rfl) (by first | exact Or.inl rfl | exact Or.inr rfl)))) (fun _ _ _ _ _ => f_nil) (fun _ _ _ _ _ => (q_call (ok_is_stand T) (hr.mono (by decide)) (by rfl) T.m_is_stand T.F_is_stand.kp T.bi_is_stand passL (q_con (q_rd (pv 0)) (q_con (q_rd (pv 2)) q_nil)))))))))))
/-! ### present_stand -/
theorem sc_present_stand : FnScope ["stream"] ["stream"] (defScope st_present_stand) := ⟨rfl, rfl, rfl, by decide +kernel, rfl, by decide +kernel, by decide +kernel⟩
noncomputable def b_present_stand : X3 := (retS (e2 ixD (rd 0) (e1 negI (cE (.int 1)))))
noncomputable def F_present_stand : FnS := fnE 0 b_present_stand
theorem ok_present_stand (T : Txt K mg) : FnOk P w K mg base (L2.CX P w) 1 T.a_present_stand T.fd_present_stand ["stream"] (spK K mg [false] F_present_stand) :=
  fn_ok T.F_present_stand sc_present_stand rfl rfl fun cdv A outer s H E hr => by
    have hu64 := hr.units
    have hu1 := hu_of hr
    have tk : Takes (cxOf (L2.CX P w) P w K mg base ["stream"] "present_stand" (defScope st_present_stand) T.a_present_stand cdv A outer s H E) (fun cls d _ H => E cls d H) := takes_of rfl rfl rfl rfl
    have hx := passes_call tk (fun _ _ _ _ h => h)
    exact (b_one (s_ret (m_ix (q_rd (pv 0)) (q_neg q_int))))
/-! ### fed -/
theorem sc_fed : FnScope ["machine", "stream", "row", "answers", "stand", "value", "answer"] ["machine", "stream", "row"] (defScope st_fed) := ⟨rfl, rfl, rfl, by decide +kernel, rfl, by decide +kernel, by decide +kernel⟩
noncomputable def b_fed : X3 := (seqS (parS 3 4 (lstE nilA) (callN [false] F_present_stand (conA (rd 1) nilA)))
    (seqS (forS (sqI (rd 2)) (nmT 5) (seqS (asgS (tupT 2 (conT (nmT 6) (conT (nmT 4) nilT))) (callN [false, false, false] F_stand_behind (conA (rd 0) (conA (rd 4) (conA (rd 5) nilA)))))
    (dropS (e2r isL appO (rd 3) (own (rd 6))))))
    (retS (tupE (conA (e1 tupO (rd 3)) (conA (tupE (starA (rd 1) (conA (rd 4) nilA))) nilA))))))
noncomputable def F_fed : FnS := fnE 4 b_fed
theorem ok_fed (T : Txt K mg) : FnOk P w K mg base (L2.CX P w) 3 T.a_fed T.fd_fed ["machine", "stream", "row"] (spK K mg [false, false, false] F_fed) :=
  fn_ok T.F_fed sc_fed rfl rfl fun cdv A outer s H E hr => by
    have hu64 := hr.units
    have hu1 := hu_of hr
    have tk : Takes (cxOf (L2.CX P w) P w K mg base ["machine", "stream", "row", "answers", "stand", "value", "answer"] "fed" (defScope st_fed) T.a_fed cdv A outer s H E) (fun cls d _ H => E cls d H) := takes_of rfl rfl rfl rfl
    have hx := passes_call tk (fun _ _ _ _ h => h)
    exact (b_cons (s_par (i := 3) (j := 4) (by rfl) sc_fed.nd (by rfl) (by rfl) (q_lst q_nil) (q_call (ok_present_stand T) (hr.mono (by decide)) (by rfl) T.m_present_stand T.F_present_stand.kp T.bi_present_stand hx (q_con (q_rd (pv 1)) q_nil)))
    (b_cons (s_for (passes_of (by rfl)) (by rfl) (i_sq (q_rd (pv 2))) (g_name (ws := [5]) (pg_name sc_fed.nd (by rfl) (by first | exact Or.inl rfl | exact Or.inr rfl))) (b_cons (s_asg (q_call (ok_stand_behind T) (hr.mono (by decide)) (by rfl) T.m_stand_behind T.F_stand_behind.kp T.bi_stand_behind hx (q_con (q_rd (pv 0)) (q_con (q_rd (pv 4)) (q_con (q_rd (pv 5)) q_nil)))) (g_tup (by rfl) (g_cons (g_name (ws := [6, 4]) (pg_name sc_fed.nd (by rfl) (by first | exact Or.inl rfl | exact Or.inr rfl))) (g_cons (g_name (ws := [6, 4]) (pg_name sc_fed.nd (by rfl) (by first | exact Or.inl rfl | exact Or.inr rfl))) g_nil))))
    (b_one (s_expr (m_app (q_rd (pv 3)) (q_rd (pv 6)))))))
    (b_one (s_ret (q_tup (q_con (m_tuple T.b_tuple (q_rd (pv 3))) (q_con (q_tup (q_star (q_rd (pv 1)) (q_con (q_rd (pv 4)) q_nil))) q_nil)))))))
/-! ### taken_back -/
theorem sc_taken_back : FnScope ["stream"] ["stream"] (defScope st_taken_back) := ⟨rfl, rfl, rfl, by decide +kernel, rfl, by decide +kernel, by decide +kernel⟩
noncomputable def b_taken_back : X3 := (seqS (ifS (tst (e2 eqE (e1 lenE (rd 0)) (cE (.int 1)))) (raiseS "NothingDone") skipS)
    (retS (slE (rd 0) noP (soP (e1 negI (cE (.int 1)))))))
noncomputable def F_taken_back : FnS := fnE 0 b_taken_back
theorem ok_taken_back (T : Txt K mg) : FnOk P w K mg base (L2.CX P w) 1 T.a_taken_back T.fd_taken_back ["stream"] (spK K mg [false] F_taken_back) :=
  fn_ok T.F_taken_back sc_taken_back rfl rfl fun cdv A outer s H E hr => by
    have hu64 := hr.units
    have hu1 := hu_of hr
    have tk : Takes (cxOf (L2.CX P w) P w K mg base ["stream"] "taken_back" (defScope st_taken_back) T.a_taken_back cdv A outer s H E) (fun cls d _ H => E cls d H) := takes_of rfl rfl rfl rfl
    have hx := passes_call tk (fun _ _ _ _ h => h)
    exact (b_cons (s_if (m_tcmp (q_eq hu64 (m_len T.b_len (q_rd (pv 0))) q_int)) (b_one (s_raise0 (by rfl) tk T.x_NothingDone)) b_nil)
    (b_one (s_ret (q_sl (q_rd (pv 0)) q_nop (q_sop (q_neg q_int))))))
/-! ### values_kept -/
theorem sc_values_kept : FnScope ["stream"] ["stream"] (defScope st_values_kept) := ⟨rfl, rfl, rfl, by decide +kernel, rfl, by decide +kernel, by decide +kernel⟩
noncomputable def b_values_kept : X3 := (retS (e2 ixD (callN [false] F_present_stand (conA (rd 0) nilA)) (cE (.int 1))))
noncomputable def F_values_kept : FnS := fnE 0 b_values_kept
theorem ok_values_kept (T : Txt K mg) : FnOk P w K mg base (L2.CX P w) 2 T.a_values_kept T.fd_values_kept ["stream"] (spK K mg [false] F_values_kept) :=
  fn_ok T.F_values_kept sc_values_kept rfl rfl fun cdv A outer s H E hr => by
    have hu64 := hr.units
    have hu1 := hu_of hr
    have tk : Takes (cxOf (L2.CX P w) P w K mg base ["stream"] "values_kept" (defScope st_values_kept) T.a_values_kept cdv A outer s H E) (fun cls d _ H => E cls d H) := takes_of rfl rfl rfl rfl
    have hx := passes_call tk (fun _ _ _ _ h => h)
    exact (b_one (s_ret (m_ix (q_call (ok_present_stand T) (hr.mono (by decide)) (by rfl) T.m_present_stand T.F_present_stand.kp T.bi_present_stand hx (q_con (q_rd (pv 0)) q_nil)) q_int)))
/-! ### says_yes_now -/
theorem sc_says_yes_now : FnScope ["machine", "stream"] ["machine", "stream"] (defScope st_says_yes_now) := ⟨rfl, rfl, rfl, by decide +kernel, rfl, by decide +kernel, by decide +kernel⟩
noncomputable def b_says_yes_now : X3 := (retS (e2 inE (e2 ixD (callN [false] F_present_stand (conA (rd 1) nilA)) (cE (.int 0))) (e2 ixD (rd 0) (cE (.int 2)))))
noncomputable def F_says_yes_now : FnS := fnE 0 b_says_yes_now
theorem ok_says_yes_now (T : Txt K mg) : FnOk P w K mg base (L2.CX P w) 2 T.a_says_yes_now T.fd_says_yes_now ["machine", "stream"] (spK K mg [false, false] F_says_yes_now) :=
  fn_ok T.F_says_yes_now sc_says_yes_now rfl rfl fun cdv A outer s H E hr => by
    have hu64 := hr.units
    have hu1 := hu_of hr
    have tk : Takes (cxOf (L2.CX P w) P w K mg base ["machine", "stream"] "says_yes_now" (defScope st_says_yes_now) T.a_says_yes_now cdv A outer s H E) (fun cls d _ H => E cls d H) := takes_of rfl rfl rfl rfl
    have hx := passes_call tk (fun _ _ _ _ h => h)
    exact (b_one (s_ret (q_in (m_ix (q_call (ok_present_stand T) (hr.mono (by decide)) (by rfl) T.m_present_stand T.F_present_stand.kp T.bi_present_stand hx (q_con (q_rd (pv 1)) q_nil)) q_int) (m_ix (q_rd (pv 0)) q_int))))
/-! ### fresh_values -/
theorem sc_fresh_values : FnScope ["words", "held", "many", "some", "k", "value"] ["words", "held", "many"] (defScope st_fresh_values) := ⟨rfl, rfl, rfl, by decide +kernel, rfl, by decide +kernel, by decide +kernel⟩
noncomputable def b_fresh_values : X3 := (seqS (asgS (nmT 3) (lcE (rgI1 (e2 addI (e2 addI (rd 2) (e1 lenE (rd 0))) (e1 lenE (rd 1)))) [4] (nmT 4) yesB (e2 catS (cE (.str "v")) (e1 strO (rd 4)))))
    (retS (slE (lcE (sqI (rd 3)) [5] (nmT 5) (andB (tst (e2 niE (rd 5) (rd 0))) (tst (e2 niE (rd 5) (rd 1)))) (rd 5)) noP (soP (rd 2)))))
noncomputable def F_fresh_values : FnS := fnE 3 b_fresh_values
theorem ok_fresh_values (T : Txt K mg) : FnOk P w K mg base (L2.CX P w) 1 T.a_fresh_values T.fd_fresh_values ["words", "held", "many"] (spK K mg [false, false, false] F_fresh_values) :=
  fn_ok T.F_fresh_values sc_fresh_values rfl rfl fun cdv A outer s H E hr => by
    have hu64 := hr.units
    have hu1 := hu_of hr
    have tk : Takes (cxOf (L2.CX P w) P w K mg base ["words", "held", "many", "some", "k", "value"] "fresh_values" (defScope st_fresh_values) T.a_fresh_values cdv A outer s H E) (fun cls d _ H => E cls d H) := takes_of rfl rfl rfl rfl
    have hx := passes_call tk (fun _ _ _ _ h => h)
    exact (b_cons (s_setLc (i := 3) (by rfl) sc_fresh_values.nd (by rfl) (by rfl) (sw_true (by rfl) (by rfl) (by rfl) (by rfl)) (i_rng1 (by rfl) T.b_range (q_add (q_add (q_rd (pv 2)) (m_len T.b_len (q_rd (pv 0)))) (m_len T.b_len (q_rd (pv 1))))) (blkOk_by (own := [("k", 4)]) (by rfl)) (fun _ _ _ _ _ => (g_name (ws := (([("k", 4)] : List (Str × Nat)).map (·.2))) (pg_name sc_fresh_values.nd (by rfl) (by first | exact Or.inl rfl | exact Or.inr rfl)))) (fun _ _ _ _ _ => f_nil) (fun _ _ _ _ _ => (q_catS q_str (m_str T.b_str (q_rd (pv 4))))))
    (b_one (s_ret (q_sl (q_lc (by rfl) sc_fresh_values.nd (i_sq (q_rd (pv 3))) (blkOk_by (own := [("value", 5)]) (by rfl)) (fun _ _ _ _ _ => (g_name (ws := (([("value", 5)] : List (Str × Nat)).map (·.2))) (pg_name sc_fresh_values.nd (by rfl) (by first | exact Or.inl rfl | exact Or.inr rfl)))) (fun _ _ _ _ _ => (f_one (B := []) (m_tw (w_and (m_tcmp (q_notin (q_rd (pv 5)) (q_rd (pv 0)))) (w_and1 (m_tcmp (q_notin (q_rd (pv 5)) (q_rd (pv 1))))))))) (fun _ _ _ _ _ => (q_rd (pv 5)))) q_nop (q_sop (q_rd (pv 2)))))))
/-! ### ways_to_modes -/
theorem sc_ways_to_modes : FnScope ["machine", "found", "line", "mode", "sign", "answer", "late", "fills"] ["machine"] (defScope st_ways_to_modes) := ⟨rfl, rfl, rfl, by decide +kernel, rfl, by decide +kernel, by decide +kernel⟩
noncomputable def b_ways_to_modes : X3 := (seqS (parS 1 2 (dspE [(.inl 0)] (conA (tupE nilA) nilA)) (lstE (conA (cE (.int 0)) nilA)))
    (seqS (whileS (tst (e2 neE (rd 2) (lstE nilA))) (seqS (asgS (nmT 3) (e2r isL popA (rd 2) (cE (.int 0))))
    (forS (enI (e2 ixD (e2 ixD (rd 0) (cE (.int 3))) (rd 3))) (tupT 2 (conT (nmT 4) (conT (tupT 3 (conT (nmT 5) (conT (nmT 6) (conT (nmT 7) nilT)))) nilT))) (ifS (tst (e2 dniE (rd 6) (rd 1))) (seqS (dputS (tupE (starA (e2 dgetE (rd 1) (rd 3)) (conA (rd 4) nilA))) (rd 1) (rd 6))
    (dropS (e2r isL appO (rd 2) (own (rd 6))))) skipS))))
    (retS (rd 1))))
noncomputable def F_ways_to_modes : FnS := fnE 7 b_ways_to_modes
theorem ok_ways_to_modes (T : Txt K mg) : FnOk P w K mg base (L2.CX P w) 1 T.a_ways_to_modes T.fd_ways_to_modes ["machine"] (spK K mg [false] F_ways_to_modes) :=
  fn_ok T.F_ways_to_modes sc_ways_to_modes rfl rfl fun cdv A outer s H E hr => by
    have hu64 := hr.units
    have hu1 := hu_of hr
    have tk : Takes (cxOf (L2.CX P w) P w K mg base ["machine", "found", "line", "mode", "sign", "answer", "late", "fills"] "ways_to_modes" (defScope st_ways_to_modes) T.a_ways_to_modes cdv A outer s H E) (fun cls d _ H => E cls d H) := takes_of rfl rfl rfl rfl
    have hx := passes_call tk (fun _ _ _ _ h => h)
    exact (b_cons (s_par (i := 1) (j := 2) (by rfl) sc_ways_to_modes.nd (by rfl) (by rfl) (q_dsp (qp_cons (key := (.inl 0)) pe_int (q_tup q_nil) qp_nil) (by rfl) (by rfl) (by simp) (by decide)) (q_lst (q_con q_int q_nil)))
    (b_cons (s_while (passes_of (by rfl)) (m_tcmp (q_ne hu64 (q_rd (pv 2)) (q_lst q_nil))) (b_cons (s_asg (m_popA (q_rd (pv 2)) q_int) (g_name (ws := [3]) (pg_name sc_ways_to_modes.nd (by rfl) (by first | exact Or.inl rfl | exact Or.inr rfl))))
    (b_one (s_for (passes_of (by rfl)) (by rfl) (i_enum (by rfl) T.b_enumerate (m_ix (m_ix (q_rd (pv 0)) q_int) (q_rd (pv 3)))) (g_tup (by rfl) (g_cons (g_name (ws := [4, 5, 6, 7]) (pg_name sc_ways_to_modes.nd (by rfl) (by first | exact Or.inl rfl | exact Or.inr rfl))) (g_cons (g_tup (by rfl) (g_cons (g_name (ws := [4, 5, 6, 7]) (pg_name sc_ways_to_modes.nd (by rfl) (by first | exact Or.inl rfl | exact Or.inr rfl))) (g_cons (g_name (ws := [4, 5, 6, 7]) (pg_name sc_ways_to_modes.nd (by rfl) (by first | exact Or.inl rfl | exact Or.inr rfl))) (g_cons (g_name (ws := [4, 5, 6, 7]) (pg_name sc_ways_to_modes.nd (by rfl) (by first | exact Or.inl rfl | exact Or.inr rfl))) g_nil)))) g_nil))) (b_one (s_if (m_tcmp (q_dni hu1 (q_rd (pv 6)) (q_rd (pv 1)))) (b_cons (s_dput hu1 (q_rd (pv 1)) (q_rd (pv 6)) (q_tup (q_star (m_dget hu1 (q_rd (pv 1)) (q_rd (pv 3))) (q_con (q_rd (pv 4)) q_nil))))
    (b_one (s_expr (m_app (q_rd (pv 2)) (q_rd (pv 6)))))) b_nil))))))
    (b_one (s_ret (q_rd (pv 1))))))
/-! ### marks_read -/
theorem sc_marks_read : FnScope ["machine", "signs", "told", "mode", "boxes", "found", "many", "sign", "things", "answer", "fills", "thing"] ["machine", "signs"] (defScope st_marks_read) := ⟨rfl, rfl, rfl, by decide +kernel, rfl, by decide +kernel, by decide +kernel⟩
noncomputable def b_marks_read : X3 := (seqS (asgS (tupT 5 (conT (nmT 2) (conT (nmT 3) (conT (nmT 4) (conT (nmT 5) (conT (nmT 6) nilT)))))) (tupE (conA (e1 lenE (e2 ixD (rd 0) (cE (.int 0)))) (conA (cE (.int 0)) (conA (tupE nilA) (conA (lstE nilA) (conA (cE (.int 0)) nilA)))))))
    (seqS (forS (sqI (rd 1)) (nmT 7) (seqS (asgS (nmT 8) (tupE (starA (e2 ixD (rd 0) (cE (.int 0))) (starA (rd 4) (conA (rd 6) nilA)))))
    (seqS (dropS (e2r isL appO (rd 5) (own (e2 ixD (rd 8) (rd 7)))))
    (seqS (augS 6 (fun i j => i + j) (e1 intO (e2 eqE (rd 7) (e2 addI (rd 2) (e1 lenE (rd 4))))))
    (seqS (asgS (tupT 3 (conT (nmT 9) (conT (nmT 3) (conT (nmT 10) nilT)))) (e2 ixD (e2 ixD (e2 ixD (rd 0) (cE (.int 3))) (rd 3)) (rd 7)))
    (asgS (nmT 4) (e1 tupO (lcE (sqI (rd 10)) [11] (nmT 11) yesB (e2 ixD (rd 8) (rd 11))))))))))
    (retS (tupE (conA (own (rd 5)) (conA (rd 4) nilA))))))
noncomputable def F_marks_read : FnS := fnE 10 b_marks_read
theorem ok_marks_read (T : Txt K mg) : FnOk P w K mg base (L2.CX P w) 1 T.a_marks_read T.fd_marks_read ["machine", "signs"] (spK K mg [false, false] F_marks_read) :=
  fn_ok T.F_marks_read sc_marks_read rfl rfl fun cdv A outer s H E hr => by
    have hu64 := hr.units
    have hu1 := hu_of hr
    have tk : Takes (cxOf (L2.CX P w) P w K mg base ["machine", "signs", "told", "mode", "boxes", "found", "many", "sign", "things", "answer", "fills", "thing"] "marks_read" (defScope st_marks_read) T.a_marks_read cdv A outer s H E) (fun cls d _ H => E cls d H) := takes_of rfl rfl rfl rfl
    have hx := passes_call tk (fun _ _ _ _ h => h)
    exact (b_cons (s_asg (q_tup (q_con (m_len T.b_len (m_ix (q_rd (pv 0)) q_int)) (q_con q_int (q_con (q_tup q_nil) (q_con (q_lst q_nil) (q_con q_int q_nil)))))) (g_tup (by rfl) (g_cons (g_name (ws := [2, 3, 4, 5, 6]) (pg_name sc_marks_read.nd (by rfl) (by first | exact Or.inl rfl | exact Or.inr rfl))) (g_cons (g_name (ws := [2, 3, 4, 5, 6]) (pg_name sc_marks_read.nd (by rfl) (by first | exact Or.inl rfl | exact Or.inr rfl))) (g_cons (g_name (ws := [2, 3, 4, 5, 6]) (pg_name sc_marks_read.nd (by rfl) (by first | exact Or.inl rfl | exact Or.inr rfl))) (g_cons (g_name (ws := [2, 3, 4, 5, 6]) (pg_name sc_marks_read.nd (by rfl) (by first | exact Or.inl rfl | exact Or.inr rfl))) (g_cons (g_name (ws := [2, 3, 4, 5, 6]) (pg_name sc_marks_read.nd (by rfl) (by first | exact Or.inl rfl | exact Or.inr rfl))) g_nil)))))))
    (b_cons (s_for (passes_of (by rfl)) (by rfl) (i_sq (q_rd (pv 1))) (g_name (ws := [7]) (pg_name sc_marks_read.nd (by rfl) (by first | exact Or.inl rfl | exact Or.inr rfl))) (b_cons (s_asg (q_tup (q_star (m_ix (q_rd (pv 0)) q_int) (q_star (q_rd (pv 4)) (q_con (q_rd (pv 6)) q_nil)))) (g_name (ws := [8]) (pg_name sc_marks_read.nd (by rfl) (by first | exact Or.inl rfl | exact Or.inr rfl))))
    (b_cons (s_expr (m_app (q_rd (pv 5)) (m_ix (q_rd (pv 8)) (q_rd (pv 7)))))
    (b_cons (s_aug (m_int T.b_int (q_eq hu64 (q_rd (pv 7)) (q_add (q_rd (pv 2)) (m_len T.b_len (q_rd (pv 4)))))) fun t x => ps_aug sc_marks_read.nd (by rfl) (by first | exact Or.inl rfl | exact Or.inr rfl) x ip_add)
    (b_cons (s_asg (m_ix (m_ix (m_ix (q_rd (pv 0)) q_int) (q_rd (pv 3))) (q_rd (pv 7))) (g_tup (by rfl) (g_cons (g_name (ws := [9, 3, 10]) (pg_name sc_marks_read.nd (by rfl) (by first | exact Or.inl rfl | exact Or.inr rfl))) (g_cons (g_name (ws := [9, 3, 10]) (pg_name sc_marks_read.nd (by rfl) (by first | exact Or.inl rfl | exact Or.inr rfl))) (g_cons (g_name (ws := [9, 3, 10]) (pg_name sc_marks_read.nd (by rfl) (by first | exact Or.inl rfl | exact Or.inr rfl))) g_nil)))))
    (b_one (s_asg (m_tuple T.b_tuple (q_lc (by rfl) sc_marks_read.nd (i_sq (q_rd (pv 10))) (blkOk_by (own := [("thing", 11)]) (by rfl)) (fun _ _ _ _ _ => (g_name (ws := (([("thing", 11)] : List (Str × Nat)).map (·.2))) (pg_name sc_marks_read.nd (by rfl) (by first | exact Or.inl rfl | exact Or.inr rfl)))) (fun _ _ _ _ _ => f_nil) (fun _ _ _ _ _ => (m_ix (q_rd (pv 8)) (q_rd (pv 11)))))) (g_name (ws := [4]) (pg_name sc_marks_read.nd (by rfl) (by first | exact Or.inl rfl | exact Or.inr rfl))))))))))
    (b_one (s_ret (q_tup (q_con (q_own (q_rd (pv 5))) (q_con (q_rd (pv 4)) q_nil)))))))
/-! ### short_row -/
theorem sc_short_row : FnScope ["machine", "stand", "ways", "marks", "boxes", "known", "fresh", "mark"] ["machine", "stand"] (defScope st_short_row) := ⟨rfl, rfl, rfl, by decide +kernel, rfl, by decide +kernel, by decide +kernel⟩
noncomputable def b_short_row : X3 := (seqS (asgS (nmT 2) (callN [false] F_ways_to_modes (conA (rd 0) nilA)))
    (seqS (ifS (tst (e2 dniE (e2 ixD (rd 1) (cE (.int 0))) (rd 2))) (raiseS "NotOfIt") skipS)
    (seqS (asgS (tupT 2 (conT (nmT 3) (conT (nmT 4) nilT))) (callN [false, false] F_marks_read (conA (rd 0) (conA (e2 dgetE (rd 2) (e2 ixD (rd 1) (cE (.int 0)))) nilA))))
    (seqS (asgS (nmT 5) (e1 dctO (e2 zipO (rd 4) (e2 ixD (rd 1) (cE (.int 1))))))
    (seqS (asgS (nmT 6) (callN [false, false, false] F_fresh_values (conA (e2 ixD (rd 0) (cE (.int 0))) (conA (e2 ixD (rd 1) (cE (.int 1))) (conA (e1 lenE (rd 3)) nilA)))))
    (seqS (forS (sqI (rd 3)) (nmT 7) (ifS (andB (tst (e1 (isiO "int") (rd 7))) (tst (e2 dniE (rd 7) (rd 5)))) (dputS (e2r isL popA (rd 6) (cE (.int 0))) (rd 5) (rd 7)) skipS))
    (retS (e1 tupO (lcE (sqI (rd 3)) [7] (nmT 7) yesB (ifE (tst (e1 (isiO "int") (rd 7))) (e2 dgetE (rd 5) (rd 7)) (rd 7)))))))))))
noncomputable def F_short_row : FnS := fnE 6 b_short_row
theorem ok_short_row (T : Txt K mg) : FnOk P w K mg base (L2.CX P w) 2 T.a_short_row T.fd_short_row ["machine", "stand"] (spK K mg [false, false] F_short_row) :=
  fn_ok T.F_short_row sc_short_row rfl rfl fun cdv A outer s H E hr => by
    have hu64 := hr.units
    have hu1 := hu_of hr
    have tk : Takes (cxOf (L2.CX P w) P w K mg base ["machine", "stand", "ways", "marks", "boxes", "known", "fresh", "mark"] "short_row" (defScope st_short_row) T.a_short_row cdv A outer s H E) (fun cls d _ H => E cls d H) := takes_of rfl rfl rfl rfl
    have hx := passes_call tk (fun _ _ _ _ h => h)
    exact (b_cons (s_asg (q_call (ok_ways_to_modes T) (hr.mono (by decide)) (by rfl) T.m_ways_to_modes T.F_ways_to_modes.kp T.bi_ways_to_modes hx (q_con (q_rd (pv 0)) q_nil)) (g_name (ws := [2]) (pg_name sc_short_row.nd (by rfl) (by first | exact Or.inl rfl | exact Or.inr rfl))))
    (b_cons (s_if (m_tcmp (q_dni hu1 (m_ix (q_rd (pv 1)) q_int) (q_rd (pv 2)))) (b_one (s_raise0 (by rfl) tk T.x_NotOfIt)) b_nil)
    (b_cons (s_asg (q_call (ok_marks_read T) (hr.mono (by decide)) (by rfl) T.m_marks_read T.F_marks_read.kp T.bi_marks_read hx (q_con (q_rd (pv 0)) (q_con (m_dget hu1 (q_rd (pv 2)) (m_ix (q_rd (pv 1)) q_int)) q_nil))) (g_tup (by rfl) (g_cons (g_name (ws := [3, 4]) (pg_name sc_short_row.nd (by rfl) (by first | exact Or.inl rfl | exact Or.inr rfl))) (g_cons (g_name (ws := [3, 4]) (pg_name sc_short_row.nd (by rfl) (by first | exact Or.inl rfl | exact Or.inr rfl))) g_nil))))
    (b_cons (s_asg (m_dict (by rfl) T.b_dict (m_lzip (by rfl) T.b_list T.b_zip (q_rd (pv 4)) (m_ix (q_rd (pv 1)) q_int))) (g_name (ws := [5]) (pg_name sc_short_row.nd (by rfl) (by first | exact Or.inl rfl | exact Or.inr rfl))))
    (b_cons (s_asg (q_call (ok_fresh_values T) (hr.mono (by decide)) (by rfl) T.m_fresh_values T.F_fresh_values.kp T.bi_fresh_values hx (q_con (m_ix (q_rd (pv 0)) q_int) (q_con (m_ix (q_rd (pv 1)) q_int) (q_con (m_len T.b_len (q_rd (pv 3))) q_nil)))) (g_name (ws := [6]) (pg_name sc_short_row.nd (by rfl) (by first | exact Or.inl rfl | exact Or.inr rfl))))
    (b_cons (s_for (passes_of (by rfl)) (by rfl) (i_sq (q_rd (pv 3))) (g_name (ws := [7]) (pg_name sc_short_row.nd (by rfl) (by first | exact Or.inl rfl | exact Or.inr rfl))) (b_one (s_if (m_tw (w_and (q_tst (m_isi (T := "int") T.b_isinstance T.b_int (by rfl) (q_rd (pv 7)))) (w_and1 (m_tcmp (q_dni hu1 (q_rd (pv 7)) (q_rd (pv 5))))))) (b_one (s_dput hu1 (q_rd (pv 5)) (q_rd (pv 7)) (m_popA (q_rd (pv 6)) q_int))) b_nil)))
    (b_one (s_ret (m_tuple T.b_tuple (q_lc (by rfl) sc_short_row.nd (i_sq (q_rd (pv 3))) (blkOk_by (own := [("mark", 7)]) (by rfl)) (fun _ _ _ _ _ => (g_name (ws := (([("mark", 7)] : List (Str × Nat)).map (·.2))) (pg_name sc_short_row.nd (by rfl) (by first | exact Or.inl rfl | exact Or.inr rfl)))) (fun _ _ _ _ _ => f_nil) (fun _ _ _ _ _ => (q_if (q_tst (m_isi (T := "int") T.b_isinstance T.b_int (by rfl) (q_rd (pv 7)))) (m_dget hu1 (q_rd (pv 5)) (q_rd (pv 7))) (q_rd (pv 7))))))))))))))
/-! ### _law_source -/
theorem sc__law_source : FnScope ["script", "mixed", "cell"] ["script"] (defScope st__law_source) := ⟨rfl, rfl, rfl, by decide +kernel, rfl, by decide +kernel, by decide +kernel⟩
noncomputable def b__law_source : X3 := (seqS (asgS (nmT 1) (cE (.int 11)))
    (seqS (forS (sqI (rd 0)) (nmT 2) (asgS (nmT 1) (e2 modI (e1 intO (e2 addI (e2 addI (e2 mulI (rd 1) (cE (.int 69069))) (e2 mulI (rd 2) (cE (.int 31)))) (cE (.int 5)))) (cE (.int 2147483629)))))
    (retS (dspE [(.inr "cells"), (.inr "left"), (.inr "mixed"), (.inr "turn")] (conA (e1 revE (lcE (sqI (rd 0)) [2] (nmT 2) yesB (e1 absO (rd 2)))) (conA (cE (.int 1)) (conA (rd 1) (conA (cE (.int 0)) nilA))))))))
noncomputable def F__law_source : FnS := fnE 2 b__law_source
theorem ok__law_source (T : Txt K mg) : FnOk P w K mg base (L2.CX P w) 1 T.a__law_source T.fd__law_source ["script"] (spK K mg [false] F__law_source) :=
  fn_ok T.F__law_source sc__law_source rfl rfl fun cdv A outer s H E hr => by
    have hu64 := hr.units
    have hu1 := hu_of hr
    have tk : Takes (cxOf (L2.CX P w) P w K mg base ["script", "mixed", "cell"] "_law_source" (defScope st__law_source) T.a__law_source cdv A outer s H E) (fun cls d _ H => E cls d H) := takes_of rfl rfl rfl rfl
    have hx := passes_call tk (fun _ _ _ _ h => h)
    exact (b_cons (s_asg q_int (g_name (ws := [1]) (pg_name sc__law_source.nd (by rfl) (by first | exact Or.inl rfl | exact Or.inr rfl))))
    (b_cons (s_for (passes_of (by rfl)) (by rfl) (i_sq (q_rd (pv 0))) (g_name (ws := [2]) (pg_name sc__law_source.nd (by rfl) (by first | exact Or.inl rfl | exact Or.inr rfl))) (b_one (s_asg (q_mod (m_int T.b_int (q_add (q_add (q_mul (q_rd (pv 1)) q_int) (q_mul (q_rd (pv 2)) q_int)) q_int)) q_int) (g_name (ws := [1]) (pg_name sc__law_source.nd (by rfl) (by first | exact Or.inl rfl | exact Or.inr rfl))))))
    (b_one (s_ret (q_dsp (qp_cons (key := (.inr "cells")) pe_str (q_rev (q_lc (by rfl) sc__law_source.nd (i_sq (q_rd (pv 0))) (blkOk_by (own := [("cell", 2)]) (by rfl)) (fun _ _ _ _ _ => (g_name (ws := (([("cell", 2)] : List (Str × Nat)).map (·.2))) (pg_name sc__law_source.nd (by rfl) (by first | exact Or.inl rfl | exact Or.inr rfl)))) (fun _ _ _ _ _ => f_nil) (fun _ _ _ _ _ => (m_abs T.b_abs (q_rd (pv 2)))))) (qp_cons (key := (.inr "left")) pe_str q_int (qp_cons (key := (.inr "mixed")) pe_str (q_rd (pv 1)) (qp_cons (key := (.inr "turn")) pe_str q_int qp_nil)))) (by rfl) (by rfl) (by simp) (by decide))))))
/-! ### _law_pick -/
theorem sc__law_pick : FnScope ["source", "many", "left", "mixed"] ["source", "many"] (defScope st__law_pick) := ⟨rfl, rfl, rfl, by decide +kernel, rfl, by decide +kernel, by decide +kernel⟩
noncomputable def b__law_pick : X3 := (seqS (whileS (andB (tst (e2 gtI (rd 1) (cE (.int 1)))) (andB (tst (e2 ltI (e2 dgetE (rd 0) (cE (.str "left"))) (cE (.int 2)))) (tst (e2 gtI (lenPE 0 (.inr "cells")) (cE (.int 0)))))) (dputS (popPE 0 (.inr "cells")) (rd 0) (cE (.str "left"))))
    (seqS (asgS (nmT 2) (e2 dgetE (rd 0) (cE (.str "left"))))
    (seqS (ifS (orB (tst (e2 ltI (rd 1) (cE (.int 2)))) (tst (e2 gtI (rd 2) (cE (.int 1))))) (seqS (dputS (e2 fdivI (rd 2) (e2 maxO (cE (.int 1)) (rd 1))) (rd 0) (cE (.str "left")))
    (retS (e2 modI (e1 intO (rd 2)) (e2 maxO (cE (.int 1)) (rd 1))))) skipS)
    (seqS (dputS (e2 addI (e2 dgetE (rd 0) (cE (.str "turn"))) (cE (.int 1))) (rd 0) (cE (.str "turn")))
    (seqS (asgS (nmT 3) (e2 modI (e1 intO (e2 addI (e2 dgetE (rd 0) (cE (.str "mixed"))) (e2 mulI (e2 dgetE (rd 0) (cE (.str "turn"))) (cE (.int 104729))))) (cE (.int 998244353))))
    (seqS (asgS (nmT 3) (e2 modI (e1 intO (e2 addI (e2 mulI (rd 3) (rd 3)) (e2 mulI (e2 dgetE (rd 0) (cE (.str "turn"))) (cE (.int 17))))) (cE (.int 2147483647))))
    (seqS (dputS (rd 3) (rd 0) (cE (.str "mixed")))
    (retS (e2 modI (e1 intO (e2 fdivI (rd 3) (cE (.int 16)))) (rd 1))))))))))
noncomputable def F__law_pick : FnS := fnE 2 b__law_pick
theorem ok__law_pick (T : Txt K mg) : FnOk P w K mg base (L2.CX P w) 1 T.a__law_pick T.fd__law_pick ["source", "many"] (spK K mg [true, false] F__law_pick) :=
  fn_ok T.F__law_pick sc__law_pick rfl rfl fun cdv A outer s H E hr => by
    have hu64 := hr.units
    have hu1 := hu_of hr
    have tk : Takes (cxOf (L2.CX P w) P w K mg base ["source", "many", "left", "mixed"] "_law_pick" (defScope st__law_pick) T.a__law_pick cdv A outer s H E) (fun cls d _ H => E cls d H) := takes_of rfl rfl rfl rfl
    have hx := passes_call tk (fun _ _ _ _ h => h)
    exact (b_cons (s_while (passes_of (by rfl)) (m_tw (w_and (m_tcmp (q_gt (q_rd (pv 1)) q_int)) (w_and (m_tcmp (q_lt (m_dget hu1 (q_rd (pv 0)) q_str) q_int)) (w_and1 (m_tcmp (q_gt (m_lenP T.b_len hu1 (pv 0)) q_int)))))) (b_one (s_dput hu1 (q_rd (pv 0)) q_str (m_popP hu1 (pv 0)))))
    (b_cons (s_asg (m_dget hu1 (q_rd (pv 0)) q_str) (g_name (ws := [2]) (pg_name sc__law_pick.nd (by rfl) (by first | exact Or.inl rfl | exact Or.inr rfl))))
    (b_cons (s_if (m_tw (w_or (m_tcmp (q_lt (q_rd (pv 1)) q_int)) (w_or1 (m_tcmp (q_gt (q_rd (pv 2)) q_int))))) (b_cons (s_dput hu1 (q_rd (pv 0)) q_str (q_fdiv (q_rd (pv 2)) (m_max (by rfl) T.b_max q_int (q_rd (pv 1)))))
    (b_one (s_ret (q_mod (m_int T.b_int (q_rd (pv 2))) (m_max (by rfl) T.b_max q_int (q_rd (pv 1))))))) b_nil)
    (b_cons (s_dput hu1 (q_rd (pv 0)) q_str (q_add (m_dget hu1 (q_rd (pv 0)) q_str) q_int))
    (b_cons (s_asg (q_mod (m_int T.b_int (q_add (m_dget hu1 (q_rd (pv 0)) q_str) (q_mul (m_dget hu1 (q_rd (pv 0)) q_str) q_int))) q_int) (g_name (ws := [3]) (pg_name sc__law_pick.nd (by rfl) (by first | exact Or.inl rfl | exact Or.inr rfl))))
    (b_cons (s_asg (q_mod (m_int T.b_int (q_add (q_mul (q_rd (pv 3)) (q_rd (pv 3))) (q_mul (m_dget hu1 (q_rd (pv 0)) q_str) q_int))) q_int) (g_name (ws := [3]) (pg_name sc__law_pick.nd (by rfl) (by first | exact Or.inl rfl | exact Or.inr rfl))))
    (b_cons (s_dput hu1 (q_rd (pv 0)) q_str (q_rd (pv 3)))
    (b_one (s_ret (q_mod (m_int T.b_int (q_fdiv (q_rd (pv 3)) q_int)) (q_rd (pv 1))))))))))))
/-! ### _law_of -/
theorem sc__law_of : FnScope ["source", "some"] ["source", "some"] (defScope st__law_of) := ⟨rfl, rfl, rfl, by decide +kernel, rfl, by decide +kernel, by decide +kernel⟩
noncomputable def b__law_of : X3 := (retS (e2 ixD (rd 1) (callN [true, false] F__law_pick (conA (rd 0) (conA (e1 lenE (rd 1)) nilA)))))
noncomputable def F__law_of : FnS := fnE 0 b__law_of
theorem ok__law_of (T : Txt K mg) : FnOk P w K mg base (L2.CX P w) 2 T.a__law_of T.fd__law_of ["source", "some"] (spK K mg [true, false] F__law_of) :=
  fn_ok T.F__law_of sc__law_of rfl rfl fun cdv A outer s H E hr => by
    have hu64 := hr.units
    have hu1 := hu_of hr
    have tk : Takes (cxOf (L2.CX P w) P w K mg base ["source", "some"] "_law_of" (defScope st__law_of) T.a__law_of cdv A outer s H E) (fun cls d _ H => E cls d H) := takes_of rfl rfl rfl rfl
    have hx := passes_call tk (fun _ _ _ _ h => h)
    exact (b_one (s_ret (m_ix (q_rd (pv 1)) (q_call (ok__law_pick T) (hr.mono (by decide)) (by rfl) T.m__law_pick T.F__law_pick.kp T.bi__law_pick hx (q_con (q_rd (pv 0)) (q_con (m_len T.b_len (q_rd (pv 1))) q_nil))))))
/-! ### _law_mixed -/
theorem sc__law_mixed : FnScope ["source", "things", "rest", "lap"] ["source", "things"] (defScope st__law_mixed) := ⟨rfl, rfl, rfl, by decide +kernel, rfl, by decide +kernel, by decide +kernel⟩
noncomputable def b__law_mixed : X3 := (seqS (asgS (nmT 2) (e1 lstO (rd 1)))
    (retS (lcE (rgI1 (e1 lenE (rd 2))) [3] (nmT 3) yesB (e2r isL popA (rd 2) (callN [true, false] F__law_pick (conA (rd 0) (conA (e1 lenE (rd 2)) nilA)))))))
noncomputable def F__law_mixed : FnS := fnE 2 b__law_mixed
theorem ok__law_mixed (T : Txt K mg) : FnOk P w K mg base (L2.CX P w) 2 T.a__law_mixed T.fd__law_mixed ["source", "things"] (spK K mg [true, false] F__law_mixed) :=
  fn_ok T.F__law_mixed sc__law_mixed rfl rfl fun cdv A outer s H E hr => by
    have hu64 := hr.units
    have hu1 := hu_of hr
    have tk : Takes (cxOf (L2.CX P w) P w K mg base ["source", "things", "rest", "lap"] "_law_mixed" (defScope st__law_mixed) T.a__law_mixed cdv A outer s H E) (fun cls d _ H => E cls d H) := takes_of rfl rfl rfl rfl
    have hx := passes_call tk (fun _ _ _ _ h => h)
    exact (b_cons (s_asg (m_list T.b_list (q_rd (pv 1))) (g_name (ws := [2]) (pg_name sc__law_mixed.nd (by rfl) (by first | exact Or.inl rfl | exact Or.inr rfl))))
    (b_one (s_ret (q_lc (by rfl) sc__law_mixed.nd (i_rng1 (by rfl) T.b_range (m_len T.b_len (q_rd (pv 2)))) (blkOk_by (own := [("lap", 3)]) (by rfl)) (fun _ _ _ _ _ => (g_name (ws := (([("lap", 3)] : List (Str × Nat)).map (·.2))) (pg_name sc__law_mixed.nd (by rfl) (by first | exact Or.inl rfl | exact Or.inr rfl)))) (fun _ _ _ _ _ => f_nil) (fun _ _ _ _ _ => (m_popA (q_rd (pv 2)) (q_call (ok__law_pick T) (hr.mono (by decide)) (by rfl) T.m__law_pick T.F__law_pick.kp T.bi__law_pick passL (q_con (q_rd (pv 0)) (q_con (m_len T.b_len (q_rd (pv 2))) q_nil)))))))))
/-! ### _law_machine -/
theorem sc__law_machine : FnScope ["source", "words", "many", "c", "boxes", "lines", "k", "mode", "line", "sign", "hand", "fits", "to", "fills", "answer", "late", "yes"] ["source", "words"] (defScope st__law_machine) := ⟨rfl, rfl, rfl, by decide +kernel, rfl, by decide +kernel, by decide +kernel⟩
noncomputable def b__law_machine : X3 := (seqS (asgS (tupT 2 (conT (nmT 2) (conT (nmT 3) nilT))) (tupE (conA (e2 addI (cE (.int 1)) (callN [true, false] F__law_pick (conA (rd 0) (conA (cE (.int 4)) nilA)))) (conA (e1 lenE (rd 1)) nilA))))
    (seqS (asgS (tupT 2 (conT (nmT 4) (conT (nmT 5) nilT))) (tupE (conA (e2 catL (lstE (conA (cE (.int 0)) nilA)) (lcE (rgI1 (e2 subI (rd 2) (cE (.int 1)))) [6] (nmT 6) yesB (callN [true, false] F__law_pick (conA (rd 0) (conA (cE (.int 3)) nilA))))) (conA (lstE nilA) nilA))))
    (seqS (forS (rgI1 (rd 2)) (nmT 7) (seqS (asgS (nmT 8) (lstE nilA))
    (seqS (forS (rgI1 (e2 addI (e2 addI (rd 3) (e2 ixD (rd 4) (rd 7))) (cE (.int 1)))) (nmT 9) (seqS (asgS (nmT 10) (e2 addI (e2 addI (rd 3) (e2 ixD (rd 4) (rd 7))) (e1 intO (e2 eqE (rd 9) (e2 addI (rd 3) (e2 ixD (rd 4) (rd 7)))))))
    (seqS (asgS (nmT 11) (lcE (rgI1 (rd 2)) [15] (nmT 15) (tst (e2 leI (e2 ixD (rd 4) (rd 15)) (e2 subI (rd 10) (rd 3)))) (rd 15)))
    (seqS (asgS (nmT 12) (callN [true, false] F__law_of (conA (rd 0) (conA (rd 11) nilA))))
    (seqS (asgS (nmT 13) (e1 tupO (slE (callN [true, false] F__law_mixed (conA (rd 0) (conA (lrE2 (rd 3) (rd 10)) nilA))) noP (soP (e2 ixD (rd 4) (rd 12))))))
    (seqS (asgS (nmT 14) (e1 tupO (lcE (rgI1 (ifE (tst (e2 gtI (rd 10) (cE (.int 0)))) (callN [true, false] F__law_pick (conA (rd 0) (conA (cE (.int 3)) nilA))) (cE (.int 0)))) [6] (nmT 6) yesB (callN [true, false] F__law_pick (conA (rd 0) (conA (rd 10) nilA))))))
    (dropS (e2r isL appO (rd 8) (own (tupE (conA (rd 14) (conA (rd 12) (conA (rd 13) nilA)))))))))))))
    (dropS (e2r isL appO (rd 5) (own (e1 tupO (rd 8))))))))
    (seqS (asgS (nmT 16) (e1 tupO (lcE (rgI1 (rd 2)) [7] (nmT 7) (tst (e2 eqE (callN [true, false] F__law_pick (conA (rd 0) (conA (cE (.int 2)) nilA))) (cE (.int 0)))) (rd 7))))
    (retS (tupE (conA (rd 1) (conA (e1 tupO (rd 4)) (conA (rd 16) (conA (e1 tupO (rd 5)) nilA))))))))))
noncomputable def F__law_machine : FnS := fnE 15 b__law_machine
theorem ok__law_machine (T : Txt K mg) : FnOk P w K mg base (L2.CX P w) 3 T.a__law_machine T.fd__law_machine ["source", "words"] (spK K mg [true, false] F__law_machine) :=
  fn_ok T.F__law_machine sc__law_machine rfl rfl fun cdv A outer s H E hr => by
    have hu64 := hr.units
    have hu1 := hu_of hr
    have tk : Takes (cxOf (L2.CX P w) P w K mg base ["source", "words", "many", "c", "boxes", "lines", "k", "mode", "line", "sign", "hand", "fits", "to", "fills", "answer", "late", "yes"] "_law_machine" (defScope st__law_machine) T.a__law_machine cdv A outer s H E) (fun cls d _ H => E cls d H) := takes_of rfl rfl rfl rfl
    have hx := passes_call tk (fun _ _ _ _ h => h)
    exact (b_cons (s_asg (q_tup (q_con (q_add q_int (q_call (ok__law_pick T) (hr.mono (by decide)) (by rfl) T.m__law_pick T.F__law_pick.kp T.bi__law_pick hx (q_con (q_rd (pv 0)) (q_con q_int q_nil)))) (q_con (m_len T.b_len (q_rd (pv 1))) q_nil))) (g_tup (by rfl) (g_cons (g_name (ws := [2, 3]) (pg_name sc__law_machine.nd (by rfl) (by first | exact Or.inl rfl | exact Or.inr rfl))) (g_cons (g_name (ws := [2, 3]) (pg_name sc__law_machine.nd (by rfl) (by first | exact Or.inl rfl | exact Or.inr rfl))) g_nil))))
    (b_cons (s_asg (q_tup (q_con (q_catL (q_lst (q_con q_int q_nil)) (q_lc (by rfl) sc__law_machine.nd (i_rng1 (by rfl) T.b_range (q_sub (q_rd (pv 2)) q_int)) (blkOk_by (own := [("k", 6)]) (by rfl)) (fun _ _ _ _ _ => (g_name (ws := (([("k", 6)] : List (Str × Nat)).map (·.2))) (pg_name sc__law_machine.nd (by rfl) (by first | exact Or.inl rfl | exact Or.inr rfl)))) (fun _ _ _ _ _ => f_nil) (fun _ _ _ _ _ => (q_call (ok__law_pick T) (hr.mono (by decide)) (by rfl) T.m__law_pick T.F__law_pick.kp T.bi__law_pick passL (q_con (q_rd (pv 0)) (q_con q_int q_nil)))))) (q_con (q_lst q_nil) q_nil))) (g_tup (by rfl) (g_cons (g_name (ws := [4, 5]) (pg_name sc__law_machine.nd (by rfl) (by first | exact Or.inl rfl | exact Or.inr rfl))) (g_cons (g_name (ws := [4, 5]) (pg_name sc__law_machine.nd (by rfl) (by first | exact Or.inl rfl | exact Or.inr rfl))) g_nil))))
    (b_cons (s_for (passes_of (by rfl)) (by rfl) (i_rng1 (by rfl) T.b_range (q_rd (pv 2))) (g_name (ws := [7]) (pg_name sc__law_machine.nd (by rfl) (by first | exact Or.inl rfl | exact Or.inr rfl))) (b_cons (s_asg (q_lst q_nil) (g_name (ws := [8]) (pg_name sc__law_machine.nd (by rfl) (by first | exact Or.inl rfl | exact Or.inr rfl))))
    (b_cons (s_for (passes_of (by rfl)) (by rfl) (i_rng1 (by rfl) T.b_range (q_add (q_add (q_rd (pv 3)) (m_ix (q_rd (pv 4)) (q_rd (pv 7)))) q_int)) (g_name (ws := [9]) (pg_name sc__law_machine.nd (by rfl) (by first | exact Or.inl rfl | exact Or.inr rfl))) (b_cons (s_asg (q_add (q_add (q_rd (pv 3)) (m_ix (q_rd (pv 4)) (q_rd (pv 7)))) (m_int T.b_int (q_eq hu64 (q_rd (pv 9)) (q_add (q_rd (pv 3)) (m_ix (q_rd (pv 4)) (q_rd (pv 7))))))) (g_name (ws := [10]) (pg_name sc__law_machine.nd (by rfl) (by first | exact Or.inl rfl | exact Or.inr rfl))))
    (b_cons (s_setLc (i := 11) (by rfl) sc__law_machine.nd (by rfl) (by rfl) (sw_true (by rfl) (by rfl) (by rfl) (by rfl)) (i_rng1 (by rfl) T.b_range (q_rd (pv 2))) (blkOk_by (own := [("late", 15)]) (by rfl)) (fun _ _ _ _ _ => (g_name (ws := (([("late", 15)] : List (Str × Nat)).map (·.2))) (pg_name sc__law_machine.nd (by rfl) (by first | exact Or.inl rfl | exact Or.inr rfl)))) (fun _ _ _ _ _ => (f_one (B := []) (m_tcmp (q_le (m_ix (q_rd (pv 4)) (q_rd (pv 15))) (q_sub (q_rd (pv 10)) (q_rd (pv 3))))))) (fun _ _ _ _ _ => (q_rd (pv 15))))
    (b_cons (s_asg (q_call (ok__law_of T) (hr.mono (by decide)) (by rfl) T.m__law_of T.F__law_of.kp T.bi__law_of hx (q_con (q_rd (pv 0)) (q_con (q_rd (pv 11)) q_nil))) (g_name (ws := [12]) (pg_name sc__law_machine.nd (by rfl) (by first | exact Or.inl rfl | exact Or.inr rfl))))
    (b_cons (s_asg (m_tuple T.b_tuple (q_sl (q_call (ok__law_mixed T) (hr.mono (by decide)) (by rfl) T.m__law_mixed T.F__law_mixed.kp T.bi__law_mixed hx (q_con (q_rd (pv 0)) (q_con (m_lrng2 (by rfl) T.b_list T.b_range (q_rd (pv 3)) (q_rd (pv 10))) q_nil))) q_nop (q_sop (m_ix (q_rd (pv 4)) (q_rd (pv 12)))))) (g_name (ws := [13]) (pg_name sc__law_machine.nd (by rfl) (by first | exact Or.inl rfl | exact Or.inr rfl))))
    (b_cons (s_asg (m_tuple T.b_tuple (q_lc (by rfl) sc__law_machine.nd (i_rng1 (by rfl) T.b_range (q_if (m_tcmp (q_gt (q_rd (pv 10)) q_int)) (q_call (ok__law_pick T) (hr.mono (by decide)) (by rfl) T.m__law_pick T.F__law_pick.kp T.bi__law_pick hx (q_con (q_rd (pv 0)) (q_con q_int q_nil))) q_int)) (blkOk_by (own := [("k", 6)]) (by rfl)) (fun _ _ _ _ _ => (g_name (ws := (([("k", 6)] : List (Str × Nat)).map (·.2))) (pg_name sc__law_machine.nd (by rfl) (by first | exact Or.inl rfl | exact Or.inr rfl)))) (fun _ _ _ _ _ => f_nil) (fun _ _ _ _ _ => (q_call (ok__law_pick T) (hr.mono (by decide)) (by rfl) T.m__law_pick T.F__law_pick.kp T.bi__law_pick passL (q_con (q_rd (pv 0)) (q_con (q_rd (pv 10)) q_nil)))))) (g_name (ws := [14]) (pg_name sc__law_machine.nd (by rfl) (by first | exact Or.inl rfl | exact Or.inr rfl))))
    (b_one (s_expr (m_app (q_rd (pv 8)) (q_tup (q_con (q_rd (pv 14)) (q_con (q_rd (pv 12)) (q_con (q_rd (pv 13)) q_nil)))))))))))))
    (b_one (s_expr (m_app (q_rd (pv 5)) (m_tuple T.b_tuple (q_rd (pv 8)))))))))
    (b_cons (s_asg (m_tuple T.b_tuple (q_lc (by rfl) sc__law_machine.nd (i_rng1 (by rfl) T.b_range (q_rd (pv 2))) (blkOk_by (own := [("mode", 7)]) (by rfl)) (fun _ _ _ _ _ => (g_name (ws := (([("mode", 7)] : List (Str × Nat)).map (·.2))) (pg_name sc__law_machine.nd (by rfl) (by first | exact Or.inl rfl | exact Or.inr rfl)))) (fun _ _ _ _ _ => (f_one (B := []) (m_tcmp (q_eq hu64 (q_call (ok__law_pick T) (hr.mono (by decide)) (by rfl) T.m__law_pick T.F__law_pick.kp T.bi__law_pick passL (q_con (q_rd (pv 0)) (q_con q_int q_nil))) q_int)))) (fun _ _ _ _ _ => (q_rd (pv 7))))) (g_name (ws := [16]) (pg_name sc__law_machine.nd (by rfl) (by first | exact Or.inl rfl | exact Or.inr rfl))))
    (b_one (s_ret (q_tup (q_con (q_rd (pv 1)) (q_con (m_tuple T.b_tuple (q_rd (pv 4))) (q_con (q_rd (pv 16)) (q_con (m_tuple T.b_tuple (q_rd (pv 5))) q_nil)))))))))))
/-! ### _law_read -/
theorem sc__law_read : FnScope ["machine", "stand", "row", "found", "words", "value", "things", "answer", "mode", "fills", "thing"] ["machine", "stand", "row"] (defScope st__law_read) := ⟨rfl, rfl, rfl, by decide +kernel, rfl, by decide +kernel, by decide +kernel⟩
noncomputable def b__law_read : X3 := (seqS (parS 3 4 (lstE nilA) (e1 lstO (e2 ixD (rd 0) (cE (.int 0)))))
    (seqS (forS (sqI (rd 2)) (nmT 5) (seqS (asgS (nmT 6) (e2 catL (e2 catL (rd 4) (e1 lstO (e2 ixD (rd 1) (cE (.int 1))))) (lstE (conA (rd 5) nilA))))
    (seqS (asgS (tupT 3 (conT (nmT 7) (conT (nmT 8) (conT (nmT 9) nilT)))) (e2 ixD (e2 ixD (e2 ixD (rd 0) (cE (.int 3))) (e2 ixD (rd 1) (cE (.int 0)))) (e2r isL (ixO lseq) (rd 6) (rd 5))))
    (seqS (dropS (e2r isL appO (rd 3) (own (e1 tupO (lcE (sqI (rd 7)) [10] (nmT 10) yesB (e2 ixD (rd 6) (rd 10)))))))
    (asgS (nmT 1) (tupE (conA (rd 8) (conA (e1 tupO (lcE (sqI (rd 9)) [10] (nmT 10) yesB (e2 ixD (rd 6) (rd 10)))) nilA))))))))
    (retS (tupE (conA (e1 tupO (rd 3)) (conA (rd 1) nilA))))))
noncomputable def F__law_read : FnS := fnE 8 b__law_read
theorem ok__law_read (T : Txt K mg) : FnOk P w K mg base (L2.CX P w) 1 T.a__law_read T.fd__law_read ["machine", "stand", "row"] (spK K mg [false, false, false] F__law_read) :=
  fn_ok T.F__law_read sc__law_read rfl rfl fun cdv A outer s H E hr => by
    have hu64 := hr.units
    have hu1 := hu_of hr
    have tk : Takes (cxOf (L2.CX P w) P w K mg base ["machine", "stand", "row", "found", "words", "value", "things", "answer", "mode", "fills", "thing"] "_law_read" (defScope st__law_read) T.a__law_read cdv A outer s H E) (fun cls d _ H => E cls d H) := takes_of rfl rfl rfl rfl
    have hx := passes_call tk (fun _ _ _ _ h => h)
    exact (b_cons (s_par (i := 3) (j := 4) (by rfl) sc__law_read.nd (by rfl) (by rfl) (q_lst q_nil) (m_list T.b_list (m_ix (q_rd (pv 0)) q_int)))
    (b_cons (s_for (passes_of (by rfl)) (by rfl) (i_sq (q_rd (pv 2))) (g_name (ws := [5]) (pg_name sc__law_read.nd (by rfl) (by first | exact Or.inl rfl | exact Or.inr rfl))) (b_cons (s_asg (q_catL (q_catL (q_rd (pv 4)) (m_list T.b_list (m_ix (q_rd (pv 1)) q_int))) (q_lst (q_con (q_rd (pv 5)) q_nil))) (g_name (ws := [6]) (pg_name sc__law_read.nd (by rfl) (by first | exact Or.inl rfl | exact Or.inr rfl))))
    (b_cons (s_asg (m_ix (m_ix (m_ix (q_rd (pv 0)) q_int) (m_ix (q_rd (pv 1)) q_int)) (m_ixL (q_rd (pv 6)) (q_rd (pv 5)))) (g_tup (by rfl) (g_cons (g_name (ws := [7, 8, 9]) (pg_name sc__law_read.nd (by rfl) (by first | exact Or.inl rfl | exact Or.inr rfl))) (g_cons (g_name (ws := [7, 8, 9]) (pg_name sc__law_read.nd (by rfl) (by first | exact Or.inl rfl | exact Or.inr rfl))) (g_cons (g_name (ws := [7, 8, 9]) (pg_name sc__law_read.nd (by rfl) (by first | exact Or.inl rfl | exact Or.inr rfl))) g_nil)))))
    (b_cons (s_expr (m_app (q_rd (pv 3)) (m_tuple T.b_tuple (q_lc (by rfl) sc__law_read.nd (i_sq (q_rd (pv 7))) (blkOk_by (own := [("thing", 10)]) (by rfl)) (fun _ _ _ _ _ => (g_name (ws := (([("thing", 10)] : List (Str × Nat)).map (·.2))) (pg_name sc__law_read.nd (by rfl) (by first | exact Or.inl rfl | exact Or.inr rfl)))) (fun _ _ _ _ _ => f_nil) (fun _ _ _ _ _ => (m_ix (q_rd (pv 6)) (q_rd (pv 10))))))))
    (b_one (s_asg (q_tup (q_con (q_rd (pv 8)) (q_con (m_tuple T.b_tuple (q_lc (by rfl) sc__law_read.nd (i_sq (q_rd (pv 9))) (blkOk_by (own := [("thing", 10)]) (by rfl)) (fun _ _ _ _ _ => (g_name (ws := (([("thing", 10)] : List (Str × Nat)).map (·.2))) (pg_name sc__law_read.nd (by rfl) (by first | exact Or.inl rfl | exact Or.inr rfl)))) (fun _ _ _ _ _ => f_nil) (fun _ _ _ _ _ => (m_ix (q_rd (pv 6)) (q_rd (pv 10)))))) q_nil))) (g_name (ws := [1]) (pg_name sc__law_read.nd (by rfl) (by first | exact Or.inl rfl | exact Or.inr rfl)))))))))
    (b_one (s_ret (q_tup (q_con (m_tuple T.b_tuple (q_rd (pv 3))) (q_con (q_rd (pv 1)) q_nil)))))))
/-! ### _law_depths -/
theorem sc__law_depths : FnScope ["machine", "found", "line", "mode", "answer", "late", "fills"] ["machine"] (defScope st__law_depths) := ⟨rfl, rfl, rfl, by decide +kernel, rfl, by decide +kernel, by decide +kernel⟩
noncomputable def b__law_depths : X3 := (seqS (parS 1 2 (dspE [(.inl 0)] (conA (cE (.int 0)) nilA)) (lstE (conA (cE (.int 0)) nilA)))
    (seqS (whileS (tst (e2 neE (rd 2) (lstE nilA))) (seqS (asgS (nmT 3) (e2r isL popA (rd 2) (cE (.int 0))))
    (forS (sqI (e2 ixD (e2 ixD (rd 0) (cE (.int 3))) (rd 3))) (tupT 3 (conT (nmT 4) (conT (nmT 5) (conT (nmT 6) nilT)))) (ifS (tst (e2 dniE (rd 5) (rd 1))) (seqS (dputS (e2 addI (e2 dgetE (rd 1) (rd 3)) (cE (.int 1))) (rd 1) (rd 5))
    (dropS (e2r isL appO (rd 2) (own (rd 5))))) skipS))))
    (retS (rd 1))))
noncomputable def F__law_depths : FnS := fnE 6 b__law_depths
theorem ok__law_depths (T : Txt K mg) : FnOk P w K mg base (L2.CX P w) 1 T.a__law_depths T.fd__law_depths ["machine"] (spK K mg [false] F__law_depths) :=
  fn_ok T.F__law_depths sc__law_depths rfl rfl fun cdv A outer s H E hr => by
    have hu64 := hr.units
    have hu1 := hu_of hr
    have tk : Takes (cxOf (L2.CX P w) P w K mg base ["machine", "found", "line", "mode", "answer", "late", "fills"] "_law_depths" (defScope st__law_depths) T.a__law_depths cdv A outer s H E) (fun cls d _ H => E cls d H) := takes_of rfl rfl rfl rfl
    have hx := passes_call tk (fun _ _ _ _ h => h)
    exact (b_cons (s_par (i := 1) (j := 2) (by rfl) sc__law_depths.nd (by rfl) (by rfl) (q_dsp (qp_cons (key := (.inl 0)) pe_int q_int qp_nil) (by rfl) (by rfl) (by simp) (by decide)) (q_lst (q_con q_int q_nil)))
    (b_cons (s_while (passes_of (by rfl)) (m_tcmp (q_ne hu64 (q_rd (pv 2)) (q_lst q_nil))) (b_cons (s_asg (m_popA (q_rd (pv 2)) q_int) (g_name (ws := [3]) (pg_name sc__law_depths.nd (by rfl) (by first | exact Or.inl rfl | exact Or.inr rfl))))
    (b_one (s_for (passes_of (by rfl)) (by rfl) (i_sq (m_ix (m_ix (q_rd (pv 0)) q_int) (q_rd (pv 3)))) (g_tup (by rfl) (g_cons (g_name (ws := [4, 5, 6]) (pg_name sc__law_depths.nd (by rfl) (by first | exact Or.inl rfl | exact Or.inr rfl))) (g_cons (g_name (ws := [4, 5, 6]) (pg_name sc__law_depths.nd (by rfl) (by first | exact Or.inl rfl | exact Or.inr rfl))) (g_cons (g_name (ws := [4, 5, 6]) (pg_name sc__law_depths.nd (by rfl) (by first | exact Or.inl rfl | exact Or.inr rfl))) g_nil)))) (b_one (s_if (m_tcmp (q_dni hu1 (q_rd (pv 5)) (q_rd (pv 1)))) (b_cons (s_dput hu1 (q_rd (pv 1)) (q_rd (pv 5)) (q_add (m_dget hu1 (q_rd (pv 1)) (q_rd (pv 3))) q_int))
    (b_one (s_expr (m_app (q_rd (pv 2)) (q_rd (pv 5)))))) b_nil))))))
    (b_one (s_ret (q_rd (pv 1))))))
end
end Kv.W

set_option Elab.async false
set_option linter.all false
set_option maxRecDepth 100000
set_option maxHeartbeats 4000000
set_option autoImplicit false
namespace Kv.W
open PySem PySem.Spec L2 Kv
variable [Tbl]
section
variable {P : Program} {w : World} {K : PySem.W.Frag} {mg : Str → Option Value} {base : Heap}
/-! ### _law_short_right -/
theorem sc__law_short_right : FnScope ["machine", "stand", "depths", "told", "ways", "here", "signs", "value"] ["machine", "stand"] (defScope st__law_short_right) := ⟨rfl, rfl, rfl, by decide +kernel, rfl, by decide +kernel, by decide +kernel⟩
noncomputable def b__law_short_right : X3 := (seqS (asgS (nmT 2) (callN [false] F__law_depths (conA (rd 0) nilA)))
    (seqS (asgS (nmT 3) (toldE ["NothingDone", "NotOfIt"] [("NothingDone", "nothing"), ("NotOfIt", "not")] (callN [false, false] F_short_row (conA (rd 0) (conA (rd 1) nilA)))))
    (seqS (ifS (tst (e2 dniE (e2 ixD (rd 1) (cE (.int 0))) (rd 2))) (retS (e2 eqE (rd 3) (tupE (conA (cE (.str "raised")) (conA (cE (.str "not")) nilA))))) skipS)
    (seqS (ifS (orB (tst (e2 neE (e2 ixD (rd 3) (cE (.int 0))) (cE (.str "told")))) (orB (notB (tst (e1 (isiO "tuple") (e2 ixD (rd 3) (cE (.int 1)))))) (tst (e2 neE (e1 lenE (e2 ixD (rd 3) (cE (.int 1)))) (e2 dgetE (rd 2) (e2 ixD (rd 1) (cE (.int 0)))))))) (retS (cE (.bl false))) skipS)
    (seqS (ifS (tst (e2 neE (e1 repO (e2 ixD (callN [false, false, false] F__law_read (conA (rd 0) (conA (tupE (conA (cE (.int 0)) (conA (tupE nilA) nilA))) (conA (e2 ixD (rd 3) (cE (.int 1))) nilA)))) (cE (.int 1)))) (e1 repO (rd 1)))) (retS (cE (.bl false))) skipS)
    (seqS (asgS (nmT 4) (callN [false] F_ways_to_modes (conA (rd 0) nilA)))
    (seqS (ifS (orB (tst (e2 neE (e1 lsdO (rd 4)) (e1 lsdO (rd 2)))) (tst (e2 neE (e1 lenE (e2 dgetE (rd 4) (e2 ixD (rd 1) (cE (.int 0))))) (e2 dgetE (rd 2) (e2 ixD (rd 1) (cE (.int 0))))))) (retS (cE (.bl false))) skipS)
    (seqS (parS 5 6 (tupE (conA (cE (.int 0)) (conA (tupE nilA) nilA))) (lstE nilA))
    (seqS (forS (sqI (e2 ixD (rd 3) (cE (.int 1)))) (nmT 7) (seqS (dropS (e2r isL appO (rd 6) (own (e2r isL (ixO lseq) (e2 catL (e2 catL (e1 lstO (e2 ixD (rd 0) (cE (.int 0)))) (e1 lstO (e2 ixD (rd 5) (cE (.int 1))))) (lstE (conA (rd 7) nilA))) (rd 7)))))
    (asgS (nmT 5) (e2 ixD (callN [false, false, false] F__law_read (conA (rd 0) (conA (rd 5) (conA (tupE (conA (rd 7) nilA)) nilA)))) (cE (.int 1))))))
    (retS (e2 eqE (e1 tupO (rd 6)) (e2 dgetE (rd 4) (e2 ixD (rd 1) (cE (.int 0)))))))))))))))
noncomputable def F__law_short_right : FnS := fnE 6 b__law_short_right
theorem ok__law_short_right (T : Txt K mg) (TB : TxtB T base) : FnG P w K mg base (L2.CX P w) 5 T.a__law_short_right T.fd__law_short_right ["machine", "stand"] (spK K mg [false, false] F__law_short_right) :=
  fn_okG T.F__law_short_right sc__law_short_right rfl rfl fun A outer s H E hr hgd => by
    have hu64 := hr.units
    have hu1 := hu_of hr
    have tk : Takes (cxOf (L2.CX P w) P w K mg base ["machine", "stand", "depths", "told", "ways", "here", "signs", "value"] "_law_short_right" (defScope st__law_short_right) T.a__law_short_right (.ref T.c__law_short_right) A outer s H E) (fun cls d _ H => E cls d H) := takes_of rfl rfl rfl rfl
    have hx := passes_call tk (fun _ _ _ _ h => h)
    exact (b_cons (s_asg (q_call (ok__law_depths T) (hr.mono (by decide)) (by rfl) T.m__law_depths T.F__law_depths.kp T.bi__law_depths hx (q_con (q_rd (pv 0)) q_nil)) (g_name (ws := [2]) (pg_name sc__law_short_right.nd (by rfl) (by first | exact Or.inl rfl | exact Or.inr rfl))))
    (b_cons (s_asg (q_told (k := 2) T.told (by rfl) TB.tb__law_short_right (by rfl) TB.in__law_short_right TB.un__law_short_right (by rfl) (hr.mono (by decide)) (LamX.lamS_by (by rfl)) (by rfl) (by intros; rfl) (fun A2 outer2 s2 H2 E2 f2 c2 hr2 => by
        have hr := hr2
        exact (q_call (ok_short_row T) (hr.mono (by decide)) (by rfl) T.m_short_row T.F_short_row.kp T.bi_short_row (lamHx (X := cxOf (L2.CX P w) P w K mg base ["machine", "stand", "depths", "told", "ways", "here", "signs", "value"] "_law_short_right" (defScope st__law_short_right) T.a__law_short_right (.ref T.c__law_short_right) A outer s H E)) (q_con (q_rd (pv 0)) (q_con (q_rd (pv 1)) q_nil))))) (g_name (ws := [3]) (pg_name sc__law_short_right.nd (by rfl) (by first | exact Or.inl rfl | exact Or.inr rfl))))
    (b_cons (s_if (m_tcmp (q_dni hu1 (m_ix (q_rd (pv 1)) q_int) (q_rd (pv 2)))) (b_one (s_ret (q_eq hu64 (q_rd (pv 3)) (q_tup (q_con q_str (q_con q_str q_nil)))))) b_nil)
    (b_cons (s_if (m_tw (w_or (m_tcmp (q_ne hu64 (m_ix (q_rd (pv 3)) q_int) q_str)) (w_or (q_tnot (q_tst (m_isi (T := "tuple") T.b_isinstance T.b_tuple (by rfl) (m_ix (q_rd (pv 3)) q_int)))) (w_or1 (m_tcmp (q_ne hu64 (m_len T.b_len (m_ix (q_rd (pv 3)) q_int)) (m_dget hu1 (q_rd (pv 2)) (m_ix (q_rd (pv 1)) q_int)))))))) (b_one (s_ret q_bl)) b_nil)
    (b_cons (s_if (m_tcmp (q_ne hu64 (m_repr hgd hu64 T.b_repr (m_ix (q_call (ok__law_read T) (hr.mono (by decide)) (by rfl) T.m__law_read T.F__law_read.kp T.bi__law_read hx (q_con (q_rd (pv 0)) (q_con (q_tup (q_con q_int (q_con (q_tup q_nil) q_nil))) (q_con (m_ix (q_rd (pv 3)) q_int) q_nil)))) q_int)) (m_repr hgd hu64 T.b_repr (q_rd (pv 1))))) (b_one (s_ret q_bl)) b_nil)
    (b_cons (s_asg (q_call (ok_ways_to_modes T) (hr.mono (by decide)) (by rfl) T.m_ways_to_modes T.F_ways_to_modes.kp T.bi_ways_to_modes hx (q_con (q_rd (pv 0)) q_nil)) (g_name (ws := [4]) (pg_name sc__law_short_right.nd (by rfl) (by first | exact Or.inl rfl | exact Or.inr rfl))))
    (b_cons (s_if (m_tw (w_or (m_tcmp (q_ne hu64 (m_lsd (by rfl) T.b_list (q_rd (pv 4))) (m_lsd (by rfl) T.b_list (q_rd (pv 2))))) (w_or1 (m_tcmp (q_ne hu64 (m_len T.b_len (m_dget hu1 (q_rd (pv 4)) (m_ix (q_rd (pv 1)) q_int))) (m_dget hu1 (q_rd (pv 2)) (m_ix (q_rd (pv 1)) q_int))))))) (b_one (s_ret q_bl)) b_nil)
    (b_cons (s_par (i := 5) (j := 6) (by rfl) sc__law_short_right.nd (by rfl) (by rfl) (q_tup (q_con q_int (q_con (q_tup q_nil) q_nil))) (q_lst q_nil))
    (b_cons (s_for (passes_of (by rfl)) (by rfl) (i_sq (m_ix (q_rd (pv 3)) q_int)) (g_name (ws := [7]) (pg_name sc__law_short_right.nd (by rfl) (by first | exact Or.inl rfl | exact Or.inr rfl))) (b_cons (s_expr (m_app (q_rd (pv 6)) (m_ixL (q_catL (q_catL (m_list T.b_list (m_ix (q_rd (pv 0)) q_int)) (m_list T.b_list (m_ix (q_rd (pv 5)) q_int))) (q_lst (q_con (q_rd (pv 7)) q_nil))) (q_rd (pv 7)))))
    (b_one (s_asg (m_ix (q_call (ok__law_read T) (hr.mono (by decide)) (by rfl) T.m__law_read T.F__law_read.kp T.bi__law_read hx (q_con (q_rd (pv 0)) (q_con (q_rd (pv 5)) (q_con (q_tup (q_con (q_rd (pv 7)) q_nil)) q_nil)))) q_int) (g_name (ws := [5]) (pg_name sc__law_short_right.nd (by rfl) (by first | exact Or.inl rfl | exact Or.inr rfl)))))))
    (b_one (s_ret (q_eq hu64 (m_tuple T.b_tuple (q_rd (pv 6))) (m_dget hu1 (q_rd (pv 4)) (m_ix (q_rd (pv 1)) q_int))))))))))))))
/-! ### law -/
theorem sc_law : FnScope ["script", "source", "words", "machine", "kept", "stream", "due", "lap", "row", "ahead", "told", "answers", "stand", "k", "whole", "one", "mode", "some", "values", "value", "is_one"] ["script"] (defScope st_law) := ⟨rfl, rfl, rfl, by decide +kernel, rfl, by decide +kernel, by decide +kernel⟩
noncomputable def b_law : X3 := (seqS (asgS (nmT 1) (callN [false] F__law_source (conA (rd 0) nilA)))
    (seqS (asgS (nmT 2) (callN [true, false] F__law_of (conA (rd 1) (conA (lstE (conA (tupE nilA) (conA (tupE nilA) (conA (tupE (conA (cE (.str "go")) nilA)) (conA (tupE (conA (cE (.str "go")) (conA (cE (.str "v1")) nilA))) nilA))))) nilA))))
    (seqS (asgS (nmT 3) (callN [true, false] F__law_machine (conA (rd 1) (conA (rd 2) nilA))))
    (seqS (asgS (tupT 3 (conT (nmT 4) (conT (nmT 5) (conT (nmT 6) nilT)))) (tupE (conA (e1 repO (rd 3)) (conA (callN [] F_first_stream nilA) (conA (lstE (conA (tupE (conA (cE (.int 0)) (conA (tupE nilA) nilA))) nilA)) nilA)))))
    (seqS (ifS (tst (e2 neE (e1 repO (rd 5)) (e1 repO (tupE (conA (tupE (conA (cE (.int 0)) (conA (tupE nilA) nilA))) nilA))))) (retS (cE (.bl false))) skipS)
    (seqS (forS (rgI1 (cE (.int 6))) (nmT 7) (seqS (asgS (nmT 8) (e1 tupO (lcE (rgI1 (callN [true, false] F__law_pick (conA (rd 1) (conA (cE (.int 5)) nilA)))) [13] (nmT 13) yesB (callN [true, false] F__law_of (conA (rd 1) (conA (lstE (conA (cE (.str "a")) (conA (cE (.str "b")) (conA (cE (.str "c")) (conA (cE (.str "v0")) (conA (cE (.str "go")) nilA)))))) nilA))))))
    (seqS (ifS (tst (e2 eqE (callN [true, false] F__law_pick (conA (rd 1) (conA (cE (.int 3)) nilA))) (cE (.int 0)))) (seqS (asgS (nmT 10) (toldE ["NothingDone", "NotOfIt"] [("NothingDone", "nothing"), ("NotOfIt", "not")] (callN [false] F_taken_back (conA (rd 5) nilA))))
    (seqS (ifS (andB (tst (e2 eqE (e1 lenE (rd 6)) (cE (.int 1)))) (tst (e2 neE (rd 10) (tupE (conA (cE (.str "raised")) (conA (cE (.str "nothing")) nilA)))))) (retS (cE (.bl false))) skipS)
    (ifS (tst (e2 gtI (e1 lenE (rd 6)) (cE (.int 1)))) (seqS (dropS (e1r isL popO (rd 6)))
    (seqS (ifS (tst (e2 neE (e1 repO (rd 10)) (e1 repO (tupE (conA (cE (.str "told")) (conA (e1 tupO (rd 6)) nilA)))))) (retS (cE (.bl false))) skipS)
    (asgS (nmT 5) (e2 ixD (rd 10) (cE (.int 1)))))) skipS))) skipS)
    (seqS (asgS (tupT 2 (conT (nmT 11) (conT (nmT 12) nilT))) (callN [false, false, false] F__law_read (conA (rd 3) (conA (e2 ixD (rd 6) (e1 negI (cE (.int 1)))) (conA (rd 8) nilA)))))
    (seqS (asgS (nmT 9) (rd 5))
    (seqS (asgS (tupT 2 (conT (nmT 10) (conT (nmT 5) nilT))) (callN [false, false, false] F_fed (conA (rd 3) (conA (rd 5) (conA (rd 8) nilA)))))
    (seqS (dropS (e2r isL appO (rd 6) (own (rd 12))))
    (seqS (ifS (orB (tst (e2 neE (e1 repO (lstE (conA (rd 10) (conA (rd 5) nilA)))) (e1 repO (lstE (conA (rd 11) (conA (e1 tupO (rd 6)) nilA)))))) (tst (e2 neE (e1 repO (rd 9)) (e1 repO (e1 tupO (slE (rd 6) noP (soP (e1 negI (cE (.int 1)))))))))) (retS (cE (.bl false))) skipS)
    (seqS (ifS (tst (e2 neE (e1 repO (lstE (conA (callN [false] F_values_kept (conA (rd 5) nilA)) (conA (callN [false, false] F_says_yes_now (conA (rd 3) (conA (rd 5) nilA))) nilA)))) (e1 repO (lstE (conA (e2 ixD (rd 12) (cE (.int 1))) (conA (e2 inE (e2 ixD (rd 12) (cE (.int 0))) (e2 ixD (rd 3) (cE (.int 2)))) nilA)))))) (retS (cE (.bl false))) skipS)
    (ifS (notB (tst (callN [false, false] F__law_short_right (conA (rd 3) (conA (rd 12) nilA))))) (retS (cE (.bl false))) skipS))))))))))
    (seqS (asgS (nmT 14) (lcE (rgI1 (e1 lenE (e2 ixD (rd 3) (cE (.int 1))))) [15] (nmT 15) yesB (rd 15)))
    (seqS (asgS (nmT 16) (callN [true, false] F__law_of (conA (rd 1) (conA (rd 14) nilA))))
    (seqS (asgS (nmT 17) (tupE (conA (rd 16) (conA (e1 tupO (slE (lcE (sqI (lstE (conA (cE (.str "x")) (conA (cE (.str "v1")) (conA (cE (.str "y")) (conA (cE (.str "v0")) nilA)))))) [15] (nmT 15) (tst (e2 niE (rd 15) (rd 2))) (rd 15)) noP (soP (e2 ixD (e2 ixD (rd 3) (cE (.int 1))) (rd 16))))) nilA))))
    (seqS (ifS (notB (tst (callN [false, false] F__law_short_right (conA (rd 3) (conA (rd 17) nilA))))) (retS (cE (.bl false))) skipS)
    (seqS (asgS (nmT 18) (lstE (conA (tupE (conA (rd 5) (conA (cE (.bl true)) nilA))) (conA (tupE (conA (tupE (conA (rd 17) nilA)) (conA (cE (.bl true)) nilA))) (conA (tupE (conA (tupE nilA) (conA (cE (.bl false)) nilA))) (conA (tupE (conA (e1 lstO (rd 5)) (conA (cE (.bl false)) nilA))) (conA (tupE (conA (e2 catT (rd 5) (tupE (conA (cE .non) nilA))) (conA (cE (.bl false)) nilA))) nilA)))))))
    (seqS (asgS (nmT 18) (e2 catO (own (rd 18)) (lstE (conA (tupE (conA (tupE (conA (tupE (conA (rd 16) (conA (e2 catT (e2 ixD (rd 17) (cE (.int 1))) (tupE (conA (cE (.str "z")) nilA))) nilA))) nilA)) (conA (cE (.bl false)) nilA))) (conA (tupE (conA (tupE (conA (tupE (conA (e1 lenE (rd 14)) (conA (tupE nilA) nilA))) nilA)) (conA (cE (.bl false)) nilA))) (conA (tupE (conA (tupE (conA (tupE (conA (cE (.bl true)) (conA (tupE nilA) nilA))) nilA)) (conA (cE (.bl false)) nilA))) nilA))))))
    (seqS (dropS (e2r isL appO (rd 18) (own (tupE (conA (tupE (conA (tupE (conA (rd 16) (conA (e1 lstO (e2 ixD (rd 17) (cE (.int 1)))) nilA))) nilA)) (conA (cE (.bl false)) nilA))))))
    (seqS (ifS (tst (e2 eqE (e2 ixD (e2 ixD (rd 3) (cE (.int 1))) (rd 16)) (cE (.int 2)))) (dropS (e2r isL appO (rd 18) (own (tupE (conA (tupE (conA (tupE (conA (rd 16) (conA (tupE (conA (cE (.str "x")) (conA (cE (.str "x")) nilA))) nilA))) nilA)) (conA (cE (.bl false)) nilA)))))) skipS)
    (seqS (forS (sqI (rd 18)) (tupT 2 (conT (nmT 19) (conT (nmT 20) nilT))) (ifS (tst (e2 neE (e1 repO (callN [false, false] F_is_stream (conA (rd 3) (conA (rd 19) nilA)))) (e1 repO (rd 20)))) (retS (cE (.bl false))) skipS))
    (retS (e2 eqE (e1 repO (rd 3)) (rd 4))))))))))))))))))
noncomputable def F_law : FnS := fnE 20 b_law
theorem ok_law (T : Txt K mg) (TB : TxtB T base) : FnG P w K mg base (L2.CX P w) 6 T.a_law T.fd_law ["script"] (spK K mg [false] F_law) :=
  fn_okG T.F_law sc_law rfl rfl fun A outer s H E hr hgd => by
    have hu64 := hr.units
    have hu1 := hu_of hr
    have tk : Takes (cxOf (L2.CX P w) P w K mg base ["script", "source", "words", "machine", "kept", "stream", "due", "lap", "row", "ahead", "told", "answers", "stand", "k", "whole", "one", "mode", "some", "values", "value", "is_one"] "law" (defScope st_law) T.a_law (.ref T.c_law) A outer s H E) (fun cls d _ H => E cls d H) := takes_of rfl rfl rfl rfl
    have hx := passes_call tk (fun _ _ _ _ h => h)
    exact (b_cons (s_asg (q_call (ok__law_source T) (hr.mono (by decide)) (by rfl) T.m__law_source T.F__law_source.kp T.bi__law_source hx (q_con (q_rd (pv 0)) q_nil)) (g_name (ws := [1]) (pg_name sc_law.nd (by rfl) (by first | exact Or.inl rfl | exact Or.inr rfl))))
    (b_cons (s_asg (q_call (ok__law_of T) (hr.mono (by decide)) (by rfl) T.m__law_of T.F__law_of.kp T.bi__law_of hx (q_con (q_rd (pv 1)) (q_con (q_lst (q_con (q_tup q_nil) (q_con (q_tup q_nil) (q_con (q_tup (q_con q_str q_nil)) (q_con (q_tup (q_con q_str (q_con q_str q_nil))) q_nil))))) q_nil))) (g_name (ws := [2]) (pg_name sc_law.nd (by rfl) (by first | exact Or.inl rfl | exact Or.inr rfl))))
    (b_cons (s_asg (q_call (ok__law_machine T) (hr.mono (by decide)) (by rfl) T.m__law_machine T.F__law_machine.kp T.bi__law_machine hx (q_con (q_rd (pv 1)) (q_con (q_rd (pv 2)) q_nil))) (g_name (ws := [3]) (pg_name sc_law.nd (by rfl) (by first | exact Or.inl rfl | exact Or.inr rfl))))
    (b_cons (s_asg (q_tup (q_con (m_repr hgd hu64 T.b_repr (q_rd (pv 3))) (q_con (q_call0 (ok_first_stream T) (hr.mono (by decide)) (by rfl) T.m_first_stream T.F_first_stream.kp T.bi_first_stream hx) (q_con (q_lst (q_con (q_tup (q_con q_int (q_con (q_tup q_nil) q_nil))) q_nil)) q_nil)))) (g_tup (by rfl) (g_cons (g_name (ws := [4, 5, 6]) (pg_name sc_law.nd (by rfl) (by first | exact Or.inl rfl | exact Or.inr rfl))) (g_cons (g_name (ws := [4, 5, 6]) (pg_name sc_law.nd (by rfl) (by first | exact Or.inl rfl | exact Or.inr rfl))) (g_cons (g_name (ws := [4, 5, 6]) (pg_name sc_law.nd (by rfl) (by first | exact Or.inl rfl | exact Or.inr rfl))) g_nil)))))
    (b_cons (s_if (m_tcmp (q_ne hu64 (m_repr hgd hu64 T.b_repr (q_rd (pv 5))) (m_repr hgd hu64 T.b_repr (q_tup (q_con (q_tup (q_con q_int (q_con (q_tup q_nil) q_nil))) q_nil))))) (b_one (s_ret q_bl)) b_nil)
    (b_cons (s_for (passes_of (by rfl)) (by rfl) (i_rng1 (by rfl) T.b_range q_int) (g_name (ws := [7]) (pg_name sc_law.nd (by rfl) (by first | exact Or.inl rfl | exact Or.inr rfl))) (b_cons (s_asg (m_tuple T.b_tuple (q_lc (by rfl) sc_law.nd (i_rng1 (by rfl) T.b_range (q_call (ok__law_pick T) (hr.mono (by decide)) (by rfl) T.m__law_pick T.F__law_pick.kp T.bi__law_pick hx (q_con (q_rd (pv 1)) (q_con q_int q_nil)))) (blkOk_by (own := [("k", 13)]) (by rfl)) (fun _ _ _ _ _ => (g_name (ws := (([("k", 13)] : List (Str × Nat)).map (·.2))) (pg_name sc_law.nd (by rfl) (by first | exact Or.inl rfl | exact Or.inr rfl)))) (fun _ _ _ _ _ => f_nil) (fun _ _ _ _ _ => (q_call (ok__law_of T) (hr.mono (by decide)) (by rfl) T.m__law_of T.F__law_of.kp T.bi__law_of passL (q_con (q_rd (pv 1)) (q_con (q_lst (q_con q_str (q_con q_str (q_con q_str (q_con q_str (q_con q_str q_nil)))))) q_nil)))))) (g_name (ws := [8]) (pg_name sc_law.nd (by rfl) (by first | exact Or.inl rfl | exact Or.inr rfl))))
    (b_cons (s_if (m_tcmp (q_eq hu64 (q_call (ok__law_pick T) (hr.mono (by decide)) (by rfl) T.m__law_pick T.F__law_pick.kp T.bi__law_pick hx (q_con (q_rd (pv 1)) (q_con q_int q_nil))) q_int)) (b_cons (s_asg (q_told (k := 1) T.told (by rfl) TB.tb_law (by rfl) TB.in_law TB.un_law (by rfl) (hr.mono (by decide)) (LamX.lamS_by (by rfl)) (by rfl) (by intros; rfl) (fun A2 outer2 s2 H2 E2 f2 c2 hr2 => by
        have hr := hr2
        exact (q_call (ok_taken_back T) (hr.mono (by decide)) (by rfl) T.m_taken_back T.F_taken_back.kp T.bi_taken_back (lamHx (X := cxOf (L2.CX P w) P w K mg base ["script", "source", "words", "machine", "kept", "stream", "due", "lap", "row", "ahead", "told", "answers", "stand", "k", "whole", "one", "mode", "some", "values", "value", "is_one"] "law" (defScope st_law) T.a_law (.ref T.c_law) A outer s H E)) (q_con (q_rd (pv 5)) q_nil)))) (g_name (ws := [10]) (pg_name sc_law.nd (by rfl) (by first | exact Or.inl rfl | exact Or.inr rfl))))
    (b_cons (s_if (m_tw (w_and (m_tcmp (q_eq hu64 (m_len T.b_len (q_rd (pv 6))) q_int)) (w_and1 (m_tcmp (q_ne hu64 (q_rd (pv 10)) (q_tup (q_con q_str (q_con q_str q_nil)))))))) (b_one (s_ret q_bl)) b_nil)
    (b_one (s_if (m_tcmp (q_gt (m_len T.b_len (q_rd (pv 6))) q_int)) (b_cons (s_expr (m_pop (q_rd (pv 6))))
    (b_cons (s_if (m_tcmp (q_ne hu64 (m_repr hgd hu64 T.b_repr (q_rd (pv 10))) (m_repr hgd hu64 T.b_repr (q_tup (q_con q_str (q_con (m_tuple T.b_tuple (q_rd (pv 6))) q_nil)))))) (b_one (s_ret q_bl)) b_nil)
    (b_one (s_asg (m_ix (q_rd (pv 10)) q_int) (g_name (ws := [5]) (pg_name sc_law.nd (by rfl) (by first | exact Or.inl rfl | exact Or.inr rfl))))))) b_nil)))) b_nil)
    (b_cons (s_asg (q_call (ok__law_read T) (hr.mono (by decide)) (by rfl) T.m__law_read T.F__law_read.kp T.bi__law_read hx (q_con (q_rd (pv 3)) (q_con (m_ix (q_rd (pv 6)) (q_neg q_int)) (q_con (q_rd (pv 8)) q_nil)))) (g_tup (by rfl) (g_cons (g_name (ws := [11, 12]) (pg_name sc_law.nd (by rfl) (by first | exact Or.inl rfl | exact Or.inr rfl))) (g_cons (g_name (ws := [11, 12]) (pg_name sc_law.nd (by rfl) (by first | exact Or.inl rfl | exact Or.inr rfl))) g_nil))))
    (b_cons (s_asg (q_rd (pv 5)) (g_name (ws := [9]) (pg_name sc_law.nd (by rfl) (by first | exact Or.inl rfl | exact Or.inr rfl))))
    (b_cons (s_asg (q_call (ok_fed T) (hr.mono (by decide)) (by rfl) T.m_fed T.F_fed.kp T.bi_fed hx (q_con (q_rd (pv 3)) (q_con (q_rd (pv 5)) (q_con (q_rd (pv 8)) q_nil)))) (g_tup (by rfl) (g_cons (g_name (ws := [10, 5]) (pg_name sc_law.nd (by rfl) (by first | exact Or.inl rfl | exact Or.inr rfl))) (g_cons (g_name (ws := [10, 5]) (pg_name sc_law.nd (by rfl) (by first | exact Or.inl rfl | exact Or.inr rfl))) g_nil))))
    (b_cons (s_expr (m_app (q_rd (pv 6)) (q_rd (pv 12))))
    (b_cons (s_if (m_tw (w_or (m_tcmp (q_ne hu64 (m_repr hgd hu64 T.b_repr (q_lst (q_con (q_rd (pv 10)) (q_con (q_rd (pv 5)) q_nil)))) (m_repr hgd hu64 T.b_repr (q_lst (q_con (q_rd (pv 11)) (q_con (m_tuple T.b_tuple (q_rd (pv 6))) q_nil)))))) (w_or1 (m_tcmp (q_ne hu64 (m_repr hgd hu64 T.b_repr (q_rd (pv 9))) (m_repr hgd hu64 T.b_repr (m_tuple T.b_tuple (q_sl (q_rd (pv 6)) q_nop (q_sop (q_neg q_int)))))))))) (b_one (s_ret q_bl)) b_nil)
    (b_cons (s_if (m_tcmp (q_ne hu64 (m_repr hgd hu64 T.b_repr (q_lst (q_con (q_call (ok_values_kept T) (hr.mono (by decide)) (by rfl) T.m_values_kept T.F_values_kept.kp T.bi_values_kept hx (q_con (q_rd (pv 5)) q_nil)) (q_con (q_call (ok_says_yes_now T) (hr.mono (by decide)) (by rfl) T.m_says_yes_now T.F_says_yes_now.kp T.bi_says_yes_now hx (q_con (q_rd (pv 3)) (q_con (q_rd (pv 5)) q_nil))) q_nil)))) (m_repr hgd hu64 T.b_repr (q_lst (q_con (m_ix (q_rd (pv 12)) q_int) (q_con (q_in (m_ix (q_rd (pv 12)) q_int) (m_ix (q_rd (pv 3)) q_int)) q_nil)))))) (b_one (s_ret q_bl)) b_nil)
    (b_one (s_if (q_tnot (q_tst (q_callG (ok__law_short_right T TB) (hr.mono (by decide)) hgd (by rfl) T.m__law_short_right T.F__law_short_right.kp T.bi__law_short_right hx (q_con (q_rd (pv 3)) (q_con (q_rd (pv 12)) q_nil))))) (b_one (s_ret q_bl)) b_nil)))))))))))
    (b_cons (s_setLc (i := 14) (by rfl) sc_law.nd (by rfl) (by rfl) (sw_true (by rfl) (by rfl) (by rfl) (by rfl)) (i_rng1 (by rfl) T.b_range (m_len T.b_len (m_ix (q_rd (pv 3)) q_int))) (blkOk_by (own := [("one", 15)]) (by rfl)) (fun _ _ _ _ _ => (g_name (ws := (([("one", 15)] : List (Str × Nat)).map (·.2))) (pg_name sc_law.nd (by rfl) (by first | exact Or.inl rfl | exact Or.inr rfl)))) (fun _ _ _ _ _ => f_nil) (fun _ _ _ _ _ => (q_rd (pv 15))))
    (b_cons (s_asg (q_call (ok__law_of T) (hr.mono (by decide)) (by rfl) T.m__law_of T.F__law_of.kp T.bi__law_of hx (q_con (q_rd (pv 1)) (q_con (q_rd (pv 14)) q_nil))) (g_name (ws := [16]) (pg_name sc_law.nd (by rfl) (by first | exact Or.inl rfl | exact Or.inr rfl))))
    (b_cons (s_asg (q_tup (q_con (q_rd (pv 16)) (q_con (m_tuple T.b_tuple (q_sl (q_lc (by rfl) sc_law.nd (i_sq (q_lst (q_con q_str (q_con q_str (q_con q_str (q_con q_str q_nil)))))) (blkOk_by (own := [("one", 15)]) (by rfl)) (fun _ _ _ _ _ => (g_name (ws := (([("one", 15)] : List (Str × Nat)).map (·.2))) (pg_name sc_law.nd (by rfl) (by first | exact Or.inl rfl | exact Or.inr rfl)))) (fun _ _ _ _ _ => (f_one (B := []) (m_tcmp (q_notin (q_rd (pv 15)) (q_rd (pv 2)))))) (fun _ _ _ _ _ => (q_rd (pv 15)))) q_nop (q_sop (m_ix (m_ix (q_rd (pv 3)) q_int) (q_rd (pv 16)))))) q_nil))) (g_name (ws := [17]) (pg_name sc_law.nd (by rfl) (by first | exact Or.inl rfl | exact Or.inr rfl))))
    (b_cons (s_if (q_tnot (q_tst (q_callG (ok__law_short_right T TB) (hr.mono (by decide)) hgd (by rfl) T.m__law_short_right T.F__law_short_right.kp T.bi__law_short_right hx (q_con (q_rd (pv 3)) (q_con (q_rd (pv 17)) q_nil))))) (b_one (s_ret q_bl)) b_nil)
    (b_cons (s_asg (q_lst (q_con (q_tup (q_con (q_rd (pv 5)) (q_con q_bl q_nil))) (q_con (q_tup (q_con (q_tup (q_con (q_rd (pv 17)) q_nil)) (q_con q_bl q_nil))) (q_con (q_tup (q_con (q_tup q_nil) (q_con q_bl q_nil))) (q_con (q_tup (q_con (m_list T.b_list (q_rd (pv 5))) (q_con q_bl q_nil))) (q_con (q_tup (q_con (q_catT (q_rd (pv 5)) (q_tup (q_con q_non q_nil))) (q_con q_bl q_nil))) q_nil)))))) (g_name (ws := [18]) (pg_name sc_law.nd (by rfl) (by first | exact Or.inl rfl | exact Or.inr rfl))))
    (b_cons (s_asg (q_catO (q_own (q_rd (pv 18))) (q_lst (q_con (q_tup (q_con (q_tup (q_con (q_tup (q_con (q_rd (pv 16)) (q_con (q_catT (m_ix (q_rd (pv 17)) q_int) (q_tup (q_con q_str q_nil))) q_nil))) q_nil)) (q_con q_bl q_nil))) (q_con (q_tup (q_con (q_tup (q_con (q_tup (q_con (m_len T.b_len (q_rd (pv 14))) (q_con (q_tup q_nil) q_nil))) q_nil)) (q_con q_bl q_nil))) (q_con (q_tup (q_con (q_tup (q_con (q_tup (q_con q_bl (q_con (q_tup q_nil) q_nil))) q_nil)) (q_con q_bl q_nil))) q_nil))))) (g_name (ws := [18]) (pg_name sc_law.nd (by rfl) (by first | exact Or.inl rfl | exact Or.inr rfl))))
    (b_cons (s_expr (m_app (q_rd (pv 18)) (q_tup (q_con (q_tup (q_con (q_tup (q_con (q_rd (pv 16)) (q_con (m_list T.b_list (m_ix (q_rd (pv 17)) q_int)) q_nil))) q_nil)) (q_con q_bl q_nil)))))
    (b_cons (s_if (m_tcmp (q_eq hu64 (m_ix (m_ix (q_rd (pv 3)) q_int) (q_rd (pv 16))) q_int)) (b_one (s_expr (m_app (q_rd (pv 18)) (q_tup (q_con (q_tup (q_con (q_tup (q_con (q_rd (pv 16)) (q_con (q_tup (q_con q_str (q_con q_str q_nil))) q_nil))) q_nil)) (q_con q_bl q_nil)))))) b_nil)
    (b_cons (s_for (passes_of (by rfl)) (by rfl) (i_sq (q_rd (pv 18))) (g_tup (by rfl) (g_cons (g_name (ws := [19, 20]) (pg_name sc_law.nd (by rfl) (by first | exact Or.inl rfl | exact Or.inr rfl))) (g_cons (g_name (ws := [19, 20]) (pg_name sc_law.nd (by rfl) (by first | exact Or.inl rfl | exact Or.inr rfl))) g_nil))) (b_one (s_if (m_tcmp (q_ne hu64 (m_repr hgd hu64 T.b_repr (q_call (ok_is_stream T) (hr.mono (by decide)) (by rfl) T.m_is_stream T.F_is_stream.kp T.bi_is_stream hx (q_con (q_rd (pv 3)) (q_con (q_rd (pv 19)) q_nil)))) (m_repr hgd hu64 T.b_repr (q_rd (pv 20))))) (b_one (s_ret q_bl)) b_nil)))
    (b_one (s_ret (q_eq hu64 (m_repr hgd hu64 T.b_repr (q_rd (pv 3))) (q_rd (pv 4))))))))))))))))))))
end
end Kv.W

set_option Elab.async false
set_option linter.all false
set_option maxRecDepth 100000
set_option maxHeartbeats 4000000
set_option autoImplicit false
/-! the plain law of k46: the source of choices -/
namespace Kv.W
open PySem PySem.Spec L2 Kv
variable [Tbl]
def ints' (c : List Int) : List D := c.map fun i => .p (.int i)
def srcK (c : List Int) (l m t : Int) : List (Key × D) := [(.inr "cells", .lst (ints' c)), (.inr "left", .p (.int l)), (.inr "mixed", .p (.int m)), (.inr "turn", .p (.int t))]
theorem k1 : ¬ (("cells" : Str) = "left") := by decide +kernel
theorem k2 : ¬ (("cells" : Str) = "mixed") := by decide +kernel
theorem k3 : ¬ (("cells" : Str) = "turn") := by decide +kernel
theorem k4 : ¬ (("left" : Str) = "mixed") := by decide +kernel
theorem k5 : ¬ (("left" : Str) = "turn") := by decide +kernel
theorem k6 : ¬ (("mixed" : Str) = "turn") := by decide +kernel
theorem k1' : ¬ (("left" : Str) = "cells") := by decide +kernel
theorem k2' : ¬ (("mixed" : Str) = "cells") := by decide +kernel
theorem k3' : ¬ (("turn" : Str) = "cells") := by decide +kernel
theorem k4' : ¬ (("mixed" : Str) = "left") := by decide +kernel
theorem k5' : ¬ (("turn" : Str) = "left") := by decide +kernel
theorem k6' : ¬ (("turn" : Str) = "mixed") := by decide +kernel
theorem g_c (c : List Int) (l m t : Int) : dget (srcK c l m t) (.inr "cells") = some (.lst (ints' c)) := by simp [dget, srcK]
theorem g_l (c : List Int) (l m t : Int) : dget (srcK c l m t) (.inr "left") = some (.p (.int l)) := by simp [dget, srcK, k1]
theorem g_m (c : List Int) (l m t : Int) : dget (srcK c l m t) (.inr "mixed") = some (.p (.int m)) := by simp [dget, srcK, k2, k4]
theorem g_t (c : List Int) (l m t : Int) : dget (srcK c l m t) (.inr "turn") = some (.p (.int t)) := by simp [dget, srcK, k3, k5, k6]
theorem p_l (c : List Int) (l m t x : Int) : dput (srcK c l m t) (.inr "left") (.p (.int x)) = srcK c x m t := by simp [dput, srcK, k1, k4', k5']
theorem p_m (c : List Int) (l m t x : Int) : dput (srcK c l m t) (.inr "mixed") (.p (.int x)) = srcK c l x t := by simp [dput, srcK, k2, k4, k6']
theorem p_t (c : List Int) (l m t x : Int) : dput (srcK c l m t) (.inr "turn") (.p (.int x)) = srcK c l m x := by simp [dput, srcK, k3, k5, k6]
theorem s_c (c c' : List Int) (l m t : Int) : dset (srcK c l m t) (.inr "cells") (.lst (ints' c')) = srcK c' l m t := by simp [dset, srcK]
theorem len_s (c : List Int) (l m t : Int) : (srcK c l m t).length = 4 := rfl
/-- a slot that holds the source -/
abbrev eS (c : List Int) (l m t : Int) : Option E := some (.o (.dct (srcK c l m t)))
abbrev eI (i : Int) : Option E := some (.p (.int i))
/-- one turn of the while -/
theorem pick_loop : ∀ (c : List Int) (l m t many : Int), 1 < many → ∃ (c' : List Int) (l' : Int),
    whileN (andB (tst (e2 gtI (rd 1) (cE (.int 1)))) (andB (tst (e2 ltI (e2 dgetE (rd 0) (cE (.str "left"))) (cE (.int 2)))) (tst (e2 gtI (lenPE 0 (.inr "cells")) (cE (.int 0)))))) (dputS (popPE 0 (.inr "cells")) (rd 0) (cE (.str "left"))) (c.length + 1) [eS c l m t, eI many, none, none] = .nx [eS c' l' m t, eI many, none, none] := by
  intro c
  generalize hn : c.length = n
  induction n generalizing c with
  | zero =>
    intro l m t many hm
    have : c = [] := List.length_eq_zero_iff.mp hn
    subst this
    refine ⟨[], l, ?_⟩
    by_cases h : l < 2
    · simp [whileN, andB, tst, e2, opI, rd, cE, dgetE, val, keyP, g_l, g_c, lenPE, ints', Rs.out, hm, h]
    · simp [whileN, andB, tst, e2, opI, rd, cE, dgetE, val, keyP, g_l, g_c, lenPE, ints', Rs.out, hm, h]
  | succ n ih =>
    intro l m t many hm
    by_cases h : l < 2
    · obtain ⟨d, x, rfl⟩ : ∃ d x, c = d ++ [x] := ⟨c.dropLast, c.getLast (by intro z; rw [z] at hn; simp at hn), (List.dropLast_concat_getLast _).symm⟩
      have hd : d.length = n := by simpa using hn
      obtain ⟨c', l', h3⟩ := ih d hd x m t many hm
      refine ⟨c', l', ?_⟩
      have e1 : (ints' (d ++ [x]))[(ints' (d ++ [x])).length - 1]? = some (.p (.int x)) := by simp [ints']
      have e2' : (ints' (d ++ [x])).eraseIdx ((ints' (d ++ [x])).length - 1) = ints' d := by rw [erase_last]; simp [ints']
      have e3 : (0 : Int) < ((ints' (d ++ [x])).length : Int) := by simp [ints']
      unfold whileN
      simp only [andB, tst, Kv.e2, opI, rd, cE, dgetE, val, keyP, g_l, g_c, lenPE, Rs.out, hm, h, Rs.bind_ok, List.getElem?_cons_zero, List.getElem?_cons_succ, decide_true, if_true, e3, dputS, own, popPE, e1, e2', s_c, gat, isP, len_s, p_l, List.set_cons_zero, Option.map_some]
      rw [← h3]
      simp
    · refine ⟨c, l, ?_⟩
      simp [whileN, andB, tst, e2, opI, rd, cE, dgetE, val, keyP, g_l, g_c, lenPE, ints', Rs.out, hm, h]
theorem pick_while (c : List Int) (l m t many : Int) : ∃ (c' : List Int) (l' : Int),
    whileS (andB (tst (e2 gtI (rd 1) (cE (.int 1)))) (andB (tst (e2 ltI (e2 dgetE (rd 0) (cE (.str "left"))) (cE (.int 2)))) (tst (e2 gtI (lenPE 0 (.inr "cells")) (cE (.int 0)))))) (dputS (popPE 0 (.inr "cells")) (rd 0) (cE (.str "left"))) [eS c l m t, eI many, none, none] = .nx [eS c' l' m t, eI many, none, none] := by
  by_cases hm : 1 < many
  · obtain ⟨c', l', h⟩ := pick_loop c l m t many hm
    exact ⟨c', l', (whileS_eq (by rw [h]; exact fun z => by cases z)).trans h⟩
  · have h : whileN (andB (tst (e2 gtI (rd 1) (cE (.int 1)))) (andB (tst (e2 ltI (e2 dgetE (rd 0) (cE (.str "left"))) (cE (.int 2)))) (tst (e2 gtI (lenPE 0 (.inr "cells")) (cE (.int 0)))))) (dputS (popPE 0 (.inr "cells")) (rd 0) (cE (.str "left"))) 1 [eS c l m t, eI many, none, none] = .nx [eS c l m t, eI many, none, none] := by
      simp [whileN, andB, tst, e2, opI, rd, cE, Rs.out, hm]
    exact ⟨c, l, (whileS_eq (by rw [h]; exact fun z => by cases z)).trans h⟩
/-- _law_pick: some number below many -/
theorem pick_ok (c : List Int) (l m t many : Int) (hm : many < 1073741824) : ∃ (c' : List Int) (l' m' t' r : Int) (Γ : G), 0 ≤ r ∧ r < max 1 many ∧ F__law_pick [.o (.dct (srcK c l m t)), .p (.int many)] = .ok (eS c' l' m' t' :: Γ) (.p (.int r)) := by
  obtain ⟨c', l', hw⟩ := pick_while c l m t many
  unfold F__law_pick fnE b__law_pick
  simp only [List.map_cons, List.map_nil, List.replicate, List.cons_append, List.nil_append]
  unfold seqS
  rw [hw]
  have mx : (if many > 1 then many else (1 : Int)) = max 1 many := by split <;> omega
  by_cases h1 : many < 2 ∨ 1 < l'
  · have j1 : 0 < max 1 many ∧ max 1 many < 1073741824 := by omega
    refine ⟨c', l' / max 1 many, m, t, l' % max 1 many, [eI many, eI l', none], Int.emod_nonneg _ (by omega), Int.emod_lt_of_pos _ j1.1, ?_⟩
    have ht : (if many < 2 then Rs.ok [eS c' l' m t, eI many, eI l', none] true else Rs.ok [eS c' l' m t, eI many, eI l', none] (decide (1 < l'))) = .ok [eS c' l' m t, eI many, eI l', none] true := by
      split
      · rfl
      · rw [decide_eq_true (by omega)]
    simp [Out.then, asgS, own, e2, opI, rd, cE, dgetE, val, keyP, g_l, Rs.out, nmT, ifS, orB, tst, seqS, dputS, isP, gat, len_s, p_l, retS, e1, intO, mx, j1.1, j1.2, ht]
  · have h2 : 2 ≤ many := by omega
    have n1 : ¬ many < 2 := by omega
    have n2 : ¬ 1 < l' := by omega
    let u : Int := (m + (t + 1) * 104729) % 998244353
    let v : Int := (u * u + (t + 1) * 17) % 2147483647
    have hu0 : 0 ≤ u := Int.emod_nonneg _ (by decide)
    have hu1 : u < 998244353 := Int.emod_lt_of_pos _ (by decide)
    have uu : -18446744073709551616 < (m + (t + 1) * 104729) % 998244353 ∧ (m + (t + 1) * 104729) % 998244353 < 18446744073709551616 := by omega
    refine ⟨c', l', v, t + 1, (v / 16) % many, [eI many, eI l', eI v], Int.emod_nonneg _ (by omega), by have := Int.emod_lt_of_pos (v / 16) (show 0 < many by omega); omega, ?_⟩
    simp [Out.then, asgS, own, e2, opI, rd, cE, dgetE, val, keyP, g_l, g_t, g_m, Rs.out, nmT, ifS, orB, tst, seqS, dputS, isP, gat, len_s, p_l, p_t, p_m, retS, e1, intO, n1, n2, skipS, show (0:Int) < many by omega, uu.1, uu.2, u, v]
def IsSrc (d : D) : Prop := ∃ c l m t, d = .dct (srcK c l m t)
theorem pick_src {d : D} {many : Int} (hd : IsSrc d) (hm : many < 1073741824) : ∃ (d' : D) (r : Int) (Γ : G), IsSrc d' ∧ 0 ≤ r ∧ r < max 1 many ∧ F__law_pick [.o d, .p (.int many)] = .ok (some (.o d') :: Γ) (.p (.int r)) := by
  obtain ⟨c, l, m, t, rfl⟩ := hd
  obtain ⟨c', l', m', t', r, Γ, h1, h2, h3⟩ := pick_ok c l m t many hm
  exact ⟨_, r, Γ, ⟨c', l', m', t', rfl⟩, h1, h2, h3⟩
theorem set_none_set {Γ : G} {i : Nat} {x : Option E} : (Γ.set i none).set i x = Γ.set i x := List.set_set ..
/-- a call with one owned argument that comes back changed, and one more -/
theorem call1 {F : FnS} {Γ Γ1 : G} {i : Nat} {d d' : D} {e : E} {f : X1} {y : P} {Γf : G} (h0 : Γ1[i]? = some (some (.o d))) (h0' : Γ[i]? = some (some (.o d))) (hf : f Γ = .ok Γ1 e) (he : ∀ j, e ≠ .b j) (hF : F [.o d, e] = .ok (some (.o d') :: Γf) (.p y)) :
    callN [true, false] F (conA (rd i) (conA f nilA)) Γ = .ok (Γ1.set i (some (.o d'))) (.p y) := by
  have hb : brw (Γ1.set i none) [.o d, e] = some [.o d, e] := by
    cases e with
    | b j => exact absurd rfl (he j)
    | _ => rfl
  simp [callN, conA, rd, h0', hf, nilA, callE, takeA, h0, hb, hF, outsA, backA]
theorem call_pick {Γ Γ1 : G} {i : Nat} {d : D} {many : Int} {f : X1} (hd : IsSrc d) (h0 : Γ1[i]? = some (some (.o d))) (h0' : Γ[i]? = some (some (.o d))) (hf : f Γ = .ok Γ1 (.p (.int many))) (hm : many < 1073741824) :
    ∃ (d' : D) (r : Int), IsSrc d' ∧ 0 ≤ r ∧ r < max 1 many ∧ callN [true, false] F__law_pick (conA (rd i) (conA f nilA)) Γ = .ok (Γ1.set i (some (.o d'))) (.p (.int r)) := by
  obtain ⟨d', r, Γf, h1, h2, h3, h4⟩ := pick_src (many := many) hd hm
  exact ⟨d', r, h1, h2, h3, call1 h0 h0' hf (fun j z => by cases z) h4⟩
end Kv.W

set_option Elab.async false
set_option linter.all false
set_option maxRecDepth 100000
set_option maxHeartbeats 4000000
set_option autoImplicit false
/-! the plain law of k46: _law_of, _law_mixed, _law_source -/
namespace Kv.W
open PySem PySem.Spec L2 Kv
variable [Tbl]
theorem seqS_nx {f g : X3} {Γ Γ1 : G} (h : f Γ = .nx Γ1) : seqS f g Γ = g Γ1 := by unfold seqS; rw [h]; rfl
theorem asgS_ok {t : Tg} {f : X1} {Γ Γ1 Γ2 : G} {e : E} (h : own f Γ = .ok Γ1 e) (ht : t Γ1 e = some Γ2) : asgS t f Γ = .nx Γ2 := by unfold asgS; rw [h]; show (match t Γ1 e with | some Γ2 => Out.nx Γ2 | none => .bad) = _; rw [ht]
theorem retS_ok {f : X1} {Γ Γ1 : G} {e : E} (h : own f Γ = .ok Γ1 e) : retS f Γ = .rt Γ1 e := by unfold retS; rw [h]; rfl
theorem own_p {f : X1} {Γ Γ1 : G} {x : P} (h : f Γ = .ok Γ1 (.p x)) : own f Γ = .ok Γ1 (.p x) := by unfold own; rw [h]; rfl
theorem own_o {f : X1} {Γ Γ1 : G} {x : D} (h : f Γ = .ok Γ1 (.o x)) : own f Γ = .ok Γ1 (.o x) := by unfold own; rw [h]; rfl
theorem lcE_ok {it : XI} {ws : List Nat} {t : Tg} {c : XB} {f : X1} {Γ Γ1 Γ2 : G} {ce : E} {items : List E} {acc : List D} (h1 : it Γ = .ok Γ1 (ce, items)) (h2 : lcL ws t c f items Γ1 [] = .ok Γ2 acc) : lcE it ws t c f Γ = .ok (wipeG Γ2 ws) (.o (.lst acc)) := by
  unfold lcE; rw [h1]; simp only [Rs.bind_ok, h2]
theorem fnE_o {n : Nat} {b : X3} {es : List E} {Γ : G} {d : D} (h : b (es.map some ++ List.replicate n none) = .rt Γ (.o d)) : fnE n b es = .ok Γ (.o d) := by unfold fnE; rw [h]
theorem fnE_p {n : Nat} {b : X3} {es : List E} {Γ : G} {x : P} (h : b (es.map some ++ List.replicate n none) = .rt Γ (.p x)) : fnE n b es = .ok Γ (.p x) := by unfold fnE; rw [h]
theorem lcL_cons {ws : List Nat} {t : Tg} {c : XB} {f : X1} {e : E} {r : List E} {Γ Γ1 Γ2 Γ3 : G} {acc : List D} {y : E} {d : D} (h1 : t (wipeG Γ ws) e = some Γ1) (h2 : c Γ1 = .ok Γ2 true) (h3 : own f Γ2 = .ok Γ3 y) (h4 : gat [y] = some [d]) (h5 : acc.length < 1000000) :
    lcL ws t c f (e :: r) Γ acc = lcL ws t c f r Γ3 (acc ++ [d]) := by
  rw [lcL, h1]
  simp only [h2, h3, h4, h5, if_true]
theorem lcL_skip {ws : List Nat} {t : Tg} {c : XB} {f : X1} {e : E} {r : List E} {Γ Γ1 Γ2 : G} {acc : List D} (h1 : t (wipeG Γ ws) e = some Γ1) (h2 : c Γ1 = .ok Γ2 false) :
    lcL ws t c f (e :: r) Γ acc = lcL ws t c f r Γ2 acc := by
  rw [lcL, h1]
  simp only [h2]
theorem forL_cons {t : Tg} {b : X3} {e : E} {r : List E} {Γ Γ1 Γ2 : G} (h1 : t Γ e = some Γ1) (h2 : b Γ1 = .nx Γ2) : forL t b (e :: r) Γ = forL t b r Γ2 := by
  rw [forL, h1]
  simp only [h2]
/-- an entry that holds a list or a tuple of unchanging things -/
inductive SeqE : E → List P → Prop
  | t (xs : List P) : SeqE (.p (.tup xs)) xs
  | s (xs : List P) : SeqE (.s (.lst (xs.map .p))) xs
  | o (xs : List P) : SeqE (.o (.lst (xs.map .p))) xs
theorem atI_ok {α : Type} {xs : List α} {r : Int} (h0 : 0 ≤ r) (h1 : r < xs.length) : ∃ x, L2.atI xs r = some x ∧ x ∈ xs := by
  have hl : r.toNat < xs.length := by omega
  refine ⟨xs[r.toNat], ?_, List.getElem_mem hl⟩
  unfold L2.atI ixN
  have e : (if r < 0 then r + (xs.length : Int) else r) = r := if_neg (by omega)
  simp [h0, h1, hl]
theorem of_ok {d : D} {e : E} {xs : List P} (hd : IsSrc d) (he : SeqE e xs) (h0 : xs ≠ []) (hm : xs.length < 1073741824) : ∃ (d' : D) (x : P) (Γ : G), IsSrc d' ∧ x ∈ xs ∧ F__law_of [.o d, e] = .ok (some (.o d') :: Γ) (.p x) := by
  have hlen : (0 : Int) < xs.length := by have := List.length_pos_iff.mpr h0; omega
  have hb : ∀ j, e ≠ .b j := fun j z => by subst z; cases he
  have hf : e1 lenE (rd 1) [some (.o d), some e] = .ok [some (.o d), some e] (.p (.int xs.length)) := by
    cases he <;> simp [e1, lenE, rd, slen, val]
  obtain ⟨d', r, h1, h2, h3, h4⟩ := call_pick (i := 0) (Γ := [some (.o d), some e]) (Γ1 := [some (.o d), some e]) (d := d) (many := xs.length) (f := e1 lenE (rd 1)) hd rfl rfl hf (by omega)
  obtain ⟨x, hx, hm⟩ := atI_ok (xs := xs) h2 (by omega)
  have hx' : L2.atI (xs.map D.p) r = some (.p x) := by
    unfold L2.atI at hx ⊢
    rw [List.length_map]
    cases q : ixN xs.length r with
    | none => rw [q] at hx; cases hx
    | some j => rw [q] at hx; simp at hx ⊢; simp [hx]
  refine ⟨d', x, [some e], h1, hm, ?_⟩
  unfold F__law_of fnE b__law_of
  cases he <;> simp [retS, own, Kv.e2, rd, h4, ixD, val, hx, hx', Rs.out]
theorem src_loop (fz : Option E) : ∀ (ns : List Int) (m : Int) (x : Option E), ∃ (m' : Int) (x' : Option E),
    forL (nmT 2) (asgS (nmT 1) (e2 modI (e1 intO (e2 addI (e2 addI (e2 mulI (rd 1) (cE (.int 69069))) (e2 mulI (rd 2) (cE (.int 31)))) (cE (.int 5)))) (cE (.int 2147483629)))) (ns.map fun i => .p (.int i)) [fz, eI m, x] = .nx [fz, eI m', x']
  | [], m, x => ⟨m, x, rfl⟩
  | n :: ns, m, x => by
    obtain ⟨m', x', h⟩ := src_loop fz ns ((m * 69069 + n * 31 + 5) % 2147483629) (eI n)
    refine ⟨m', x', ?_⟩
    rw [← h]
    simp [forL, nmT, asgS, own, Kv.e2, opI, rd, cE, e1, intO, Rs.out]
theorem src_cells (fz m : Option E) : ∀ (ns : List Int) (acc : List Int) (x : Option E), acc.length + ns.length < 1000000 → ∃ x', lcL [2] (nmT 2) yesB (e1 absO (rd 2)) (ns.map fun i => .p (.int i)) [fz, m, x] (ints' acc) = .ok [fz, m, x'] (ints' (acc ++ ns.map fun i => if i < 0 then -i else i))
  | [], acc, x, _ => ⟨x, by simp [lcL]⟩
  | n :: ns, acc, x, hl => by
    obtain ⟨x', h⟩ := src_cells fz m ns (acc ++ [if n < 0 then -n else n]) (eI n) (by simp at hl ⊢; omega)
    refine ⟨x', ?_⟩
    have e : ints' acc ++ [D.p (.int (if n < 0 then -n else n))] = ints' (acc ++ [if n < 0 then -n else n]) := by simp [ints']
    have hl' : (ints' acc).length < 1000000 := by simp [ints'] at hl ⊢; omega
    rw [List.map_cons, lcL_cons (Γ1 := [fz, m, eI n]) (Γ2 := [fz, m, eI n]) (Γ3 := [fz, m, eI n]) (y := .p (.int (if n < 0 then -n else n))) (d := .p (.int (if n < 0 then -n else n))) rfl rfl (by simp [own, e1, rd, absO]) rfl hl', e, h]
    simp
theorem source_ok (ns : List Int) (hl : ns.length ≤ 63) : ∃ (d : D) (Γ : G), IsSrc d ∧ F__law_source [.s (.fz (ns.map .int))] = .ok Γ (.o d) := by
  obtain ⟨m', x', h1⟩ := src_loop (some (.s (.fz (ns.map .int)))) ns 11 none
  obtain ⟨x2, h2⟩ := src_cells (some (.s (.fz (ns.map .int)))) (eI m') ns [] x' (by simp; omega)
  refine ⟨_, [some (.s (.fz (ns.map .int))), eI m', none], ⟨(ns.map fun i => if i < 0 then -i else i).reverse, 1, m', 0, rfl⟩, ?_⟩
  have n0 : ints' [] = [] := rfl
  rw [n0] at h2
  have kn : (["cells", "left", "mixed", "turn"] : List Str).Nodup := by decide +kernel
  unfold F__law_source fnE b__law_source
  simp only [seqS, asgS, own, cE, nmT, Rs.out, Out.then, forS, sqI, shr, rd, held, h1, retS, dspE, conA, e1, lcE, nilA, revE, val, List.map_cons, List.map_nil, List.replicate, List.cons_append, List.nil_append, Rs.bind_ok, List.set_cons_succ, List.set_cons_zero, List.getElem?_cons_succ, List.getElem?_cons_zero, List.map_map, Function.comp_def]
  have hu : unP (List.map ((fun i => D.p (P.int i)) ∘ fun i : Int => if i < 0 then -i else i) ns) = some (ns.map fun i => P.int (if i < 0 then -i else i)) := by
    rw [← unP_map (ns.map fun i => P.int (if i < 0 then -i else i)), List.map_map]
    rfl
  simp [h1, h2, hu, wipeG, gat, srcK, ints', revE, val, k1, k2, k3, k4, k5, k6]
theorem erase_map {α γ : Type} (f : α → γ) : ∀ (l : List α) (k : Nat), (l.map f).eraseIdx k = (l.eraseIdx k).map f
  | [], _ => by simp
  | _ :: _, 0 => by simp
  | _ :: l, k + 1 => by simp [erase_map f l k]
theorem erase_perm {α : Type} : ∀ (l : List α) (k : Nat) (x : α), l[k]? = some x → (x :: l.eraseIdx k).Perm l
  | [], _, _, h => by simp at h
  | a :: l, 0, x, h => by simp at h; subst h; exact .refl _
  | a :: l, k + 1, x, h => by
    have := erase_perm l k x (by simpa using h)
    simp only [List.eraseIdx_cons_succ]
    exact (List.Perm.swap a x _).trans (this.cons a)
theorem mixed_loop (e : Option E) : ∀ (items : List E) (rest done : List P) (d : D) (x : Option E), IsSrc d → items.length = rest.length → done.length + rest.length < 1000000 →
    ∃ (d' : D) (ys : List P) (x' : Option E), IsSrc d' ∧ ys.Perm rest ∧ lcL [3] (nmT 3) yesB (e2r isL popA (rd 2) (callN [true, false] F__law_pick (conA (rd 0) (conA (e1 lenE (rd 2)) nilA)))) items
      [some (.o d), e, some (.o (.lst (rest.map .p))), x] (done.map .p) = .ok [some (.o d'), e, some (.o (.lst [])), x'] ((done ++ ys).map .p)
  | [], [], done, d, x, hd, _, _ => ⟨d, [], x, hd, .refl _, by simp [lcL]⟩
  | [], _ :: _, _, _, _, _, h, _ => by simp at h
  | _ :: _, [], _, _, _, _, h, _ => by simp at h
  | it :: items, r0 :: rest0, done, d, x, hd, hl, hz => by
    generalize hrest : r0 :: rest0 = rest at *
    have hpos : 0 < rest.length := by rw [← hrest]; simp
    have hf : e1 lenE (rd 2) [some (.o d), e, some (.o (.lst (rest.map .p))), some it] = .ok [some (.o d), e, some (.o (.lst (rest.map .p))), some it] (.p (.int rest.length)) := by simp [e1, lenE, rd, slen, val]
    obtain ⟨d', r, h1, h2, h3, h4⟩ := call_pick (i := 0) (Γ := [some (.o d), e, some (.o (.lst (rest.map .p))), some it]) (Γ1 := [some (.o d), e, some (.o (.lst (rest.map .p))), some it]) (d := d) (many := rest.length) (f := e1 lenE (rd 2)) hd rfl rfl hf (by omega)
    have hr : r.toNat < rest.length := by omega
    have hx : rest[r.toNat]? = some rest[r.toNat] := List.getElem?_eq_getElem hr
    have hle : (rest.eraseIdx r.toNat).length = rest.length - 1 := by rw [List.length_eraseIdx, if_pos hr]
    obtain ⟨d2, ys, x', g1, g2, g3⟩ := mixed_loop e items (rest.eraseIdx r.toNat) (done ++ [rest[r.toNat]]) d' (some it) h1 (by rw [hle]; simp at hl ⊢; omega) (by rw [hle]; simp; omega)
    refine ⟨d2, rest[r.toNat] :: ys, x', g1, (g2.cons _).trans (erase_perm _ _ _ hx), ?_⟩
    rw [lcL_cons (Γ1 := [some (.o d), e, some (.o (.lst (rest.map .p))), some it]) (Γ2 := [some (.o d), e, some (.o (.lst (rest.map .p))), some it]) (Γ3 := [some (.o d'), e, some (.o (.lst ((rest.eraseIdx r.toNat).map .p))), some it]) (y := .p rest[r.toNat]) (d := .p rest[r.toNat]) rfl rfl ?_ rfl (by simp; omega)]
    · have e3 : done.map D.p ++ [D.p rest[r.toNat]] = (done ++ [rest[r.toNat]]).map D.p := by simp
      rw [e3, g3]
      simp
    · have hx' : (rest.map D.p)[r.toNat]? = some (.p rest[r.toNat]) := by simp [hx]
      have hc : 0 ≤ r ∧ r < 1000000 := by omega
      simp only [own, e2r, rd, List.getElem?_cons_succ, List.getElem?_cons_zero, Rs.bind_ok, isL, val, if_true, h4, popA, List.set_cons_zero, hc, and_self, hx', ofD, List.set_cons_succ, erase_map]
theorem rgI1_ok {f : X1} {Γ Γ1 : G} {j : Int} (h : f Γ = .ok Γ1 (.p (.int j))) (h1 : j < 1000000) (h2 : -1000000 < j) : rgI1 f Γ = .ok Γ1 (.p .non, rgE 0 j.toNat) := by
  unfold rgI1
  rw [h]
  exact if_pos ⟨h1, h2⟩
theorem mixed_hit {xs : List P} {d : D} {e : E} (hm : xs.length < 1000000) : rgI1 (e1 lenE (rd 2)) [some (.o d), some e, some (.o (.lst (xs.map .p))), none] = .ok [some (.o d), some e, some (.o (.lst (xs.map .p))), none] (.p .non, rgE 0 xs.length) := by
  have h : e1 lenE (rd 2) [some (.o d), some e, some (.o (.lst (xs.map .p))), none] = .ok [some (.o d), some e, some (.o (.lst (xs.map .p))), none] (.p (.int xs.length)) := by simp [e1, lenE, rd, slen, val]
  have h1 : (xs.length : Int) < 1000000 := Int.ofNat_lt.mpr hm
  have h2 : (-1000000 : Int) < (xs.length : Int) := Int.lt_of_lt_of_le (by decide) (Int.natCast_nonneg _)
  have := rgI1_ok h h1 h2
  rw [Int.toNat_natCast] at this
  exact this
theorem rgE_len (lo : Int) (n : Nat) : (rgE lo n).length = n := by simp [rgE]
/-- _law_mixed: the things in some order -/
theorem mixed_ok {d : D} {e : E} {xs : List P} (hd : IsSrc d) (he : SeqE e xs) (hm : xs.length < 1000000) : ∃ (d' : D) (ys : List P) (Γ : G), IsSrc d' ∧ ys.Perm xs ∧ F__law_mixed [.o d, e] = .ok (some (.o d') :: Γ) (.o (.lst (ys.map .p))) := by
  have hl : e1 lstO (rd 1) [some (.o d), some e, none, none] = .ok [some (.o d), some e, none, none] (.o (.lst (xs.map .p))) := by
    cases he <;> simp [e1, lstO, rd, pseq, val, unP_map]
  obtain ⟨d', ys, x', h1, h2, h3⟩ := mixed_loop (some e) (rgE 0 xs.length) xs [] d none hd (rgE_len _ _) (by simpa using hm)
  refine ⟨d', ys, [some e, some (.o (.lst [])), none], h1, h2, ?_⟩
  simp only [List.map_nil, List.nil_append] at h3
  have hit := mixed_hit (d := d) (e := e) hm
  refine fnE_o ?_
  show b__law_mixed [some (.o d), some e, none, none] = _
  unfold b__law_mixed
  rw [seqS_nx (asgS_ok (t := nmT 2) (own_o hl) rfl)]
  exact retS_ok (own_o (lcE_ok hit h3))
/-- .. the other argument lent -/
theorem call1b {F : FnS} {Γ : G} {i j : Nat} {d d' dl : D} {y : P} {Γf : G} (h0 : Γ[i]? = some (some (.o d))) (h1 : Γ[j]? = some (some (.o dl))) (hij : i ≠ j) (hF : F [.o d, .s dl] = .ok (some (.o d') :: Γf) (.p y)) :
    callN [true, false] F (conA (rd i) (conA (rd j) nilA)) Γ = .ok (Γ.set i (some (.o d'))) (.p y) := by
  have h2 : (Γ.set i none)[j]? = some (some (.o dl)) := by rw [List.getElem?_set_ne hij]; exact h1
  simp [callN, conA, rd, h0, h1, nilA, callE, takeA, brw, h2, hF, outsA, backA]
end Kv.W

set_option Elab.async false
set_option linter.all false
set_option maxRecDepth 100000
set_option maxHeartbeats 4000000
set_option autoImplicit false
/-! the plain law of k46: machines as data, short rules for calls and comprehensions -/
namespace Kv.W
open PySem PySem.Spec L2 Kv M
variable [Tbl]
abbrev nat' (n : Nat) : P := .int (n : Int)
def txts (l : List Str) : List P := l.map .str
def nats (l : List Nat) : List P := l.map fun n : Nat => .int (n : Int)
def entP (e : Ent) : P := .tup [.tup (nats e.ans), nat' e.to, .tup (nats e.fills)]
def linP (l : List Ent) : P := .tup (l.map entP)
structure Mac where
  words : List Str
  boxes : List Nat
  yes : List Nat
  lines : List (List Ent)
def Mac.p (m : Mac) : P := .tup [.tup (txts m.words), .tup (nats m.boxes), .tup (nats m.yes), .tup (m.lines.map linP)]
def stP (st : St Str) : P := .tup [nat' st.1, .tup (txts st.2)]
structure Mac.Ok (m : Mac) : Prop where
  l : LOk m.words.length m.boxes m.lines
  many : m.boxes.length ≤ 4
  bl : ∀ b ∈ m.boxes, b ≤ 2
  wd : m.words.Nodup
  wl : m.words.length ≤ 2
  yn : ∀ y ∈ m.yes, y < m.boxes.length
  yl : m.yes.length ≤ 4
theorem atI_nat {α : Type} (xs : List α) (n : Nat) : L2.atI xs (n : Int) = xs[n]? := by
  unfold L2.atI ixN
  by_cases h : n < xs.length
  · simp [h]
  · simp [h]
theorem atI_last {α : Type} (xs : List α) (x : α) : L2.atI (xs ++ [x]) (-1) = some x := by
  unfold L2.atI ixN
  have h1 : ¬ (0 : Int) ≤ -1 := by decide
  have h2 : -(((xs ++ [x]).length : Nat) : Int) ≤ -1 := by simp; omega
  have h3 : (-1 + (((xs ++ [x]).length : Nat) : Int)).toNat = xs.length := by simp; omega
  rw [if_neg h1, if_pos h2, h3]
  simp
theorem val_b {Γ : G} {i : Nat} {d : D} (h : Γ[i]? = some (some (.o d))) : val Γ (.b i) = some d := by
  show (match Γ[i]? with | some (some (.o d)) => some d | _ => none) = _
  rw [h]
theorem pseq_t {Γ : G} (xs : List P) : pseq Γ (.p (.tup xs)) = some xs := rfl
theorem pseq_o {Γ : G} (xs : List P) : pseq Γ (.o (.lst (xs.map .p))) = some xs := unP_map xs
theorem lseq_o {Γ : G} (xs : List P) : lseq Γ (.o (.lst (xs.map .p))) = some xs := unP_map xs
theorem pseq_b {Γ : G} {i : Nat} {xs : List P} (h : Γ[i]? = some (some (.o (.lst (xs.map .p))))) : pseq Γ (.b i) = some xs := by
  unfold pseq; rw [val_b h]; exact unP_map xs
theorem lseq_b {Γ : G} {i : Nat} {xs : List P} (h : Γ[i]? = some (some (.o (.lst (xs.map .p))))) : lseq Γ (.b i) = some xs := by
  unfold lseq; rw [val_b h]; exact unP_map xs
theorem slen_b {Γ : G} {i : Nat} {xs : List D} (h : Γ[i]? = some (some (.o (.lst xs)))) : slen Γ (.b i) = some xs.length := by
  unfold slen; rw [val_b h]
theorem flats_txts : ∀ l : List Str, flats (txts l) = some (l.map V.str)
  | [] => rfl
  | x :: l => by
    have := flats_txts l
    unfold txts at this ⊢
    rw [List.map_cons]
    unfold flats
    rw [this]; rfl
theorem inV_str (v : Str) (l : List Str) : inV (.str v) (l.map V.str) = decide (v ∈ l) := by
  unfold inV
  rw [List.any_map]
  rw [Bool.eq_iff_iff]
  simp [eqV]
theorem inOf_txts {Γ : G} {b : E} {l : List Str} (h : pseq Γ b = some (txts l)) (v : Str) : inOf Γ (.p (.str v)) b = some (decide (v ∈ l)) := by
  unfold inOf
  rw [h]
  show (match some (V.str v), flats (txts l) with | some v, some ws => some (inV v ws) | _, _ => none) = _
  rw [flats_txts]
  show some (inV (.str v) (l.map V.str)) = _
  rw [inV_str]
def fix (l : List Str) (v : Str) : Nat := l.findIdx fun z => decide (z = v)
theorem place_txts {l : List Str} {v : Str} (h : v ∈ l) : place (l.map V.str) (.str v) = some (fix l v) := by
  unfold place fix
  rw [List.findIdx?_map]
  have e : ((fun z => eqV z (V.str v)) ∘ V.str) = fun z : Str => decide (z = v) := by
    funext z
    show (z == v) = _
    rw [Bool.eq_iff_iff]; simp
  rw [e, List.findIdx?_eq_guard_findIdx_lt]
  have : l.findIdx (fun z => decide (z = v)) < l.length := List.findIdx_lt_length_of_exists ⟨v, h, by simp⟩
  simp [Option.guard, this]
theorem ixO_txts {sq : G → E → Option (List P)} {Γ : G} {a : E} {l : List Str} {v : Str} (h : sq Γ a = some (txts l)) (hv : v ∈ l) : ixO sq Γ a (.p (.str v)) = .ok Γ (.p (nat' (fix l v))) := by
  unfold ixO
  rw [h]
  show (match flats (txts l), some (V.str v) with | some ws, some w => (match place ws w with | some j => Rs.ok Γ (E.p (.int (j : Nat))) | none => .bad) | _, _ => .bad) = _
  rw [flats_txts]
  show (match place (l.map V.str) (.str v) with | some j => Rs.ok Γ (E.p (.int (j : Nat))) | none => .bad) = _
  rw [place_txts hv]
theorem sgn_w {ws vs : List Str} {v : Str} (h : v ∈ ws) : sgn ws vs v = fix ws v := by
  unfold sgn things fix
  rw [List.append_assoc, List.findIdx_append, if_pos]
  exact List.findIdx_lt_length_of_exists ⟨v, h, by simp⟩
theorem sgn_v {ws vs : List Str} {v : Str} (h0 : v ∉ ws) (h : v ∈ vs) : sgn ws vs v = ws.length + fix vs v := by
  unfold sgn things fix
  rw [List.append_assoc, List.findIdx_append, if_neg, List.findIdx_append, if_pos]
  · omega
  · exact List.findIdx_lt_length_of_exists ⟨v, h, by simp⟩
  · rw [List.findIdx_eq_length_of_false (by intro x hx; simp; exact fun e => h0 (e ▸ hx))]; omega
theorem sgn_n {ws vs : List Str} {v : Str} (h0 : v ∉ ws) (h : v ∉ vs) : sgn ws vs v = ws.length + vs.length := by
  unfold sgn things
  rw [List.append_assoc, List.findIdx_append, if_neg, List.findIdx_append, if_neg]
  · simp; omega
  · rw [List.findIdx_eq_length_of_false (by intro x hx; simp; exact fun e => h (e ▸ hx))]; omega
  · rw [List.findIdx_eq_length_of_false (by intro x hx; simp; exact fun e => h0 (e ▸ hx))]; omega
/-! ### calls that change nothing -/
theorem takeA_f : ∀ {fl : List Bool} (Γ : G) (es : List E), (∀ b ∈ fl, b = false) → takeA fl Γ es = some (Γ, es, [])
  | [], Γ, es, _ => rfl
  | b :: fl, Γ, es, h => by
    have : b = false := h b List.mem_cons_self
    subst this
    cases es with
    | nil => rfl
    | cons e es => simp [takeA, takeA_f Γ es fun b hb => h b (List.mem_cons_of_mem _ hb)]
theorem outsA_f : ∀ {fl : List Bool} (Γ : G) (k : Nat), (∀ b ∈ fl, b = false) → outsA Γ k fl = some []
  | [], _, _, _ => rfl
  | b :: fl, Γ, k, h => by
    have : b = false := h b List.mem_cons_self
    subst this
    exact outsA_f Γ (k + 1) fun b hb => h b (List.mem_cons_of_mem _ hb)
/-- the arguments, lent -/
theorem brw_p (Γ : G) : ∀ ps : List P, brw Γ (ps.map .p) = some (ps.map .p)
  | [] => rfl
  | p :: ps => by
    rw [List.map_cons]
    unfold brw
    rw [brw_p Γ ps]; rfl
theorem callN_eq {fl : List Bool} {F : FnS} {g : X2} {Γ Γ1 : G} {es es' : List E} (hg : g Γ = .ok Γ1 es) (hb : brw Γ1 es = some es') (hn : es.length = fl.length) (hf : ∀ b ∈ fl, b = false) :
    callN fl F g Γ = match F es' with
      | .ok _ (.p x) => .ok Γ1 (.p x)
      | .ok _ (.o d) => .ok Γ1 (.o d)
      | .ex c => .ex c
      | _ => .bad := by
  unfold callN
  rw [hg]
  simp only [Rs.bind_ok, hn, if_true]
  unfold callE
  simp only [Rs.bind_ok, takeA_f Γ1 es hf, hb]
  cases hF : F es' with
  | bad => rfl
  | ex c => rfl
  | ok Γf e =>
    simp only [outsA_f Γf 0 hf]
    cases e <;> rfl
theorem call_p {fl : List Bool} {F : FnS} {g : X2} {Γ Γ1 Γf : G} {es es' : List E} {y : P} (hg : g Γ = .ok Γ1 es) (hF : F es' = .ok Γf (.p y)) (hb : brw Γ1 es = some es' := by rfl) (hn : es.length = fl.length := by rfl) (hf : ∀ b ∈ fl, b = false := by simp) :
    callN fl F g Γ = .ok Γ1 (.p y) := by rw [callN_eq hg hb hn hf, hF]
theorem call_o {fl : List Bool} {F : FnS} {g : X2} {Γ Γ1 Γf : G} {es es' : List E} {y : D} (hg : g Γ = .ok Γ1 es) (hF : F es' = .ok Γf (.o y)) (hb : brw Γ1 es = some es' := by rfl) (hn : es.length = fl.length := by rfl) (hf : ∀ b ∈ fl, b = false := by simp) :
    callN fl F g Γ = .ok Γ1 (.o y) := by rw [callN_eq hg hb hn hf, hF]
theorem call_ex {fl : List Bool} {F : FnS} {g : X2} {Γ Γ1 : G} {es es' : List E} {c : Exn} (hg : g Γ = .ok Γ1 es) (hF : F es' = .ex c) (hb : brw Γ1 es = some es' := by rfl) (hn : es.length = fl.length := by rfl) (hf : ∀ b ∈ fl, b = false := by simp) :
    callN fl F g Γ = .ex c := by rw [callN_eq hg hb hn hf, hF]
/-! ### comprehensions that change nothing -/
theorem lcL_map {ws : List Nat} {t : Tg} {f : X1} {Γ : G} {α : Type} {ι : α → E} (g : α → P) : ∀ (items : List α) (Γ' : G) (acc : List P), wipeG Γ' ws = wipeG Γ ws → acc.length + items.length ≤ 1000000 →
    (∀ e ∈ items, ∃ Γ1 Γ3, t (wipeG Γ ws) (ι e) = some Γ1 ∧ own f Γ1 = .ok Γ3 (.p (g e)) ∧ wipeG Γ3 ws = wipeG Γ ws) →
    ∃ Γ2, lcL ws t yesB f (items.map ι) Γ' (acc.map .p) = .ok Γ2 ((acc ++ items.map g).map .p) ∧ wipeG Γ2 ws = wipeG Γ ws
  | [], Γ', acc, hw, _, _ => ⟨Γ', by simp [lcL], hw⟩
  | e :: r, Γ', acc, hw, hl, h => by
    obtain ⟨Γ1, Γ3, h1, h2, h3⟩ := h e List.mem_cons_self
    obtain ⟨Γ2, h4, h5⟩ := lcL_map g r Γ3 (acc ++ [g e]) h3 (by simp at hl ⊢; omega) fun e he => h e (List.mem_cons_of_mem _ he)
    refine ⟨Γ2, ?_, h5⟩
    rw [List.map_cons, lcL_cons (Γ1 := Γ1) (Γ2 := Γ1) (Γ3 := Γ3) (y := .p (g e)) (d := .p (g e)) (by rw [hw]; exact h1) rfl h2 rfl (by simp at hl ⊢; omega)]
    have e3 : acc.map D.p ++ [D.p (g e)] = (acc ++ [g e]).map D.p := by simp
    rw [e3, h4]; simp
theorem comp_ok {it : XI} {ws : List Nat} {t : Tg} {f : X1} {Γ Γ1 : G} {α : Type} {ι : α → E} {ce : E} (g : α → P) (items : List α) (h1 : it Γ = .ok Γ1 (ce, items.map ι)) (hl : items.length ≤ 1000000)
    (h : ∀ e ∈ items, ∃ Γ2 Γ3, t (wipeG Γ1 ws) (ι e) = some Γ2 ∧ own f Γ2 = .ok Γ3 (.p (g e)) ∧ wipeG Γ3 ws = wipeG Γ1 ws) : lcE it ws t yesB f Γ = .ok (wipeG Γ1 ws) (.o (.lst ((items.map g).map .p))) := by
  obtain ⟨Γ2, h2, h3⟩ := lcL_map g items Γ1 [] rfl (by simpa using hl) h
  have := lcE_ok h1 h2
  rw [this, h3]; simp
theorem lcL_filt {ws : List Nat} {t : Tg} {c : XB} {f : X1} {Γ : G} {α : Type} {ι : α → E} (p : α → Bool) (g : α → P) : ∀ (items : List α) (Γ' : G) (acc : List P), wipeG Γ' ws = wipeG Γ ws → acc.length + items.length ≤ 1000000 →
    (∀ e ∈ items, ∃ Γ1 Γ2, t (wipeG Γ ws) (ι e) = some Γ1 ∧ c Γ1 = .ok Γ2 (p e) ∧ wipeG Γ2 ws = wipeG Γ ws ∧ (p e = true → ∃ Γ3, own f Γ2 = .ok Γ3 (.p (g e)) ∧ wipeG Γ3 ws = wipeG Γ ws)) →
    ∃ Γ2, lcL ws t c f (items.map ι) Γ' (acc.map .p) = .ok Γ2 ((acc ++ (items.filter p).map g).map .p) ∧ wipeG Γ2 ws = wipeG Γ ws
  | [], Γ', acc, hw, _, _ => ⟨Γ', by simp [lcL], hw⟩
  | e :: r, Γ', acc, hw, hl, h => by
    obtain ⟨Γ1, Γ2, h1, h2, h2', h3⟩ := h e List.mem_cons_self
    cases hp : p e with
    | true =>
      obtain ⟨Γ3, h4, h5⟩ := h3 hp
      obtain ⟨Γ4, h6, h7⟩ := lcL_filt p g r Γ3 (acc ++ [g e]) h5 (by simp at hl ⊢; omega) fun e he => h e (List.mem_cons_of_mem _ he)
      refine ⟨Γ4, ?_, h7⟩
      rw [List.map_cons, lcL_cons (Γ1 := Γ1) (Γ2 := Γ2) (Γ3 := Γ3) (y := .p (g e)) (d := .p (g e)) (by rw [hw]; exact h1) (by rw [h2, hp]) h4 rfl (by simp at hl ⊢; omega)]
      have e3 : acc.map D.p ++ [D.p (g e)] = (acc ++ [g e]).map D.p := by simp
      rw [e3, h6, List.filter_cons, if_pos hp]; simp
    | false =>
      obtain ⟨Γ4, h6, h7⟩ := lcL_filt p g r Γ2 acc h2' (by simp at hl ⊢; omega) fun e he => h e (List.mem_cons_of_mem _ he)
      refine ⟨Γ4, ?_, h7⟩
      rw [List.map_cons, lcL_skip (Γ1 := Γ1) (Γ2 := Γ2) (by rw [hw]; exact h1) (by rw [h2, hp]), h6, List.filter_cons, if_neg (by simp [hp])]
theorem compf_ok {it : XI} {ws : List Nat} {t : Tg} {c : XB} {f : X1} {Γ Γ1 : G} {α : Type} {ι : α → E} {ce : E} (p : α → Bool) (g : α → P) (items : List α) (h1 : it Γ = .ok Γ1 (ce, items.map ι)) (hl : items.length ≤ 1000000)
    (h : ∀ e ∈ items, ∃ Γ2 Γ3, t (wipeG Γ1 ws) (ι e) = some Γ2 ∧ c Γ2 = .ok Γ3 (p e) ∧ wipeG Γ3 ws = wipeG Γ1 ws ∧ (p e = true → ∃ Γ4, own f Γ3 = .ok Γ4 (.p (g e)) ∧ wipeG Γ4 ws = wipeG Γ1 ws)) :
    lcE it ws t c f Γ = .ok (wipeG Γ1 ws) (.o (.lst (((items.filter p).map g).map .p))) := by
  obtain ⟨Γ2, h2, h3⟩ := lcL_filt p g items Γ1 [] rfl (by simpa using hl) h
  have := lcE_ok h1 h2
  rw [this, h3]; simp
/-! ### steps of a body -/
theorem seqS_rt {f g : X3} {Γ Γ1 : G} {e : E} (h : f Γ = .rt Γ1 e) : seqS f g Γ = .rt Γ1 e := by unfold seqS; rw [h]; rfl
theorem seqS_ex {f g : X3} {Γ : G} {c : Exn} (h : f Γ = .ex c) : seqS f g Γ = .ex c := by unfold seqS; rw [h]; rfl
theorem asgP {t : Tg} {f : X1} {Γ Γ1 Γ2 : G} {x : P} (h : f Γ = .ok Γ1 (.p x)) (ht : t Γ1 (.p x) = some Γ2) : asgS t f Γ = .nx Γ2 := asgS_ok (own_p h) ht
theorem asgO {t : Tg} {f : X1} {Γ Γ1 Γ2 : G} {x : D} (h : f Γ = .ok Γ1 (.o x)) (ht : t Γ1 (.o x) = some Γ2) : asgS t f Γ = .nx Γ2 := asgS_ok (own_o h) ht
theorem retP {f : X1} {Γ Γ1 : G} {x : P} (h : f Γ = .ok Γ1 (.p x)) : retS f Γ = .rt Γ1 (.p x) := retS_ok (own_p h)
theorem retO {f : X1} {Γ Γ1 : G} {x : D} (h : f Γ = .ok Γ1 (.o x)) : retS f Γ = .rt Γ1 (.o x) := retS_ok (own_o h)
theorem ifS_t {t : XB} {f g : X3} {Γ Γ1 : G} (h : t Γ = .ok Γ1 true) : ifS t f g Γ = f Γ1 := by unfold ifS; rw [h]; rfl
theorem ifS_f {t : XB} {f g : X3} {Γ Γ1 : G} (h : t Γ = .ok Γ1 false) : ifS t f g Γ = g Γ1 := by unfold ifS; rw [h]; rfl
theorem forS_eq {it : XI} {t : Tg} {b : X3} {Γ Γ1 : G} {ce : E} {items : List E} (h : it Γ = .ok Γ1 (ce, items)) : forS it t b Γ = forL t b items Γ1 := by unfold forS; rw [h]; rfl
theorem tup_p {g : X2} {Γ Γ1 : G} {ps : List P} (h : g Γ = .ok Γ1 (ps.map .p)) (hl : ps.length ≤ 1000000) : tupE g Γ = .ok Γ1 (.p (.tup ps)) := by
  unfold tupE
  rw [h]
  have ha : ∀ ps : List P, allP (ps.map .p) = some ps := fun ps => by
    induction ps with
    | nil => rfl
    | cons x xs ih => rw [List.map_cons]; unfold allP; rw [ih]; rfl
  simp [hl, mkTup, ha]
end Kv.W

set_option Elab.async false
set_option linter.all false
set_option maxRecDepth 100000
set_option maxHeartbeats 4000000
set_option autoImplicit false
/-! the plain law of k46: values read, streams fed -/
namespace Kv.W
open PySem PySem.Spec L2 Kv M
variable [Tbl]
theorem tupO_ok {f : X1} {Γ Γ1 : G} {xs : List P} (h : f Γ = .ok Γ1 (.o (.lst (xs.map .p)))) : e1 tupO f Γ = .ok Γ1 (.p (.tup xs)) := by
  unfold e1 tupO
  rw [h]
  simp only [Rs.bind_ok, pseq_o]
theorem getD_picks {ts : List P} : ∀ {is : List Nat}, (∀ i ∈ is, i < ts.length) → is.map (fun i => ts.getD i .non) = picks ts is
  | [], _ => rfl
  | i :: is, h => by
    have hi := List.getElem?_eq_getElem (h i List.mem_cons_self)
    rw [picks_cons hi, List.map_cons, getD_picks fun j hj => h j (List.mem_cons_of_mem _ hj)]
    rw [List.getD_eq_getElem?_getD, hi, Option.getD_some]
theorem sqI_tup {f : X1} {Γ Γ1 : G} {xs : List P} (h : f Γ = .ok Γ1 (.p (.tup xs))) : sqI f Γ = .ok Γ1 (.p (.tup xs), xs.map .p) := by
  unfold sqI shr
  rw [h]; rfl
theorem rd_p {Γ : G} {i : Nat} {x : P} (h : Γ[i]? = some (some (.p x))) : rd i Γ = .ok Γ (.p x) := by unfold rd; rw [h]
theorem rd_o {Γ : G} {i : Nat} {x : D} (h : Γ[i]? = some (some (.o x))) : rd i Γ = .ok Γ (.b i) := by unfold rd; rw [h]
theorem rd_s {Γ : G} {i : Nat} {x : D} (h : Γ[i]? = some (some (.s x))) : rd i Γ = .ok Γ (.s x) := by unfold rd; rw [h]
/-- a member by a number, of a tuple or a list of unchanging things -/
theorem ixD_seq {Γ : G} {e : E} {xs : List P} {i : Nat} {x : P} (h : val Γ e = some (.p (.tup xs)) ∨ val Γ e = some (.lst (xs.map .p))) (hx : xs[i]? = some x) : ixD Γ e (.p (.int i)) = .ok Γ (.p x) := by
  have hx' : (xs.map D.p)[i]? = some (D.p x) := by rw [List.getElem?_map, hx]; rfl
  unfold ixD
  rcases h with h | h
  · simp only [h, atI_nat, hx]
  · simp only [h, atI_nat, hx']
theorem ix_ok {f g : X1} {Γ Γ1 Γ2 : G} {xs : List P} {i : Nat} {x : P} (hf : f Γ = .ok Γ1 (.p (.tup xs))) (hg : g Γ1 = .ok Γ2 (.p (.int i))) (hx : xs[i]? = some x) : e2 ixD f g Γ = .ok Γ2 (.p x) := by
  unfold e2
  simp only [hf, hg, Rs.bind_ok]
  exact ixD_seq (.inl rfl) hx
theorem comp_picks {Γ : G} {a t w : Nat} {is : List Nat} {ts : List P} (ha : Γ[a]? = some (some (.p (.tup (nats is))))) (ht : Γ[t]? = some (some (.p (.tup ts))) ∨ Γ[t]? = some (some (.o (.lst (ts.map .p))))) (hw : w ≠ t) (hwl : w < Γ.length) (hi : ∀ i ∈ is, i < ts.length) (hl : is.length ≤ 1000000) :
    lcE (sqI (rd a)) [w] (nmT w) yesB (e2 ixD (rd t) (rd w)) Γ = .ok (Γ.set w none) (.o (.lst ((picks ts is).map .p))) := by
  have h1 : sqI (rd a) Γ = .ok Γ (.p (.tup (nats is)), is.map fun n : Nat => E.p (.int (n : Int))) := by
    rw [sqI_tup (rd_p ha)]
    simp [nats, Function.comp_def]
  rw [comp_ok (ws := [w]) (fun i : Nat => ts.getD i P.non) is h1 hl, getD_picks hi]
  · rfl
  · intro i him
    have e0 : wipeG Γ [w] = Γ.set w none := rfl
    refine ⟨(Γ.set w none).set w (some (.p (.int (i : Int)))), (Γ.set w none).set w (some (.p (.int (i : Int)))), rfl, ?_, ?_⟩
    · refine own_p ?_
      have hx : ts[i]? = some (ts.getD i .non) := by
        rw [List.getD_eq_getElem?_getD, List.getElem?_eq_getElem (hi i him)]; rfl
      have hr : rd w ((Γ.set w none).set w (some (.p (.int (i : Int))))) = .ok ((Γ.set w none).set w (some (.p (.int (i : Int))))) (.p (.int (i : Int))) := rd_p (by simp [hwl])
      have hg : ∀ e, Γ[t]? = e → ((Γ.set w none).set w (some (.p (.int (i : Int)))))[t]? = e := fun e h => by
        rw [List.getElem?_set_ne hw, List.getElem?_set_ne hw]; exact h
      rcases ht with ht | ht
      · exact ix_ok (rd_p (hg _ ht)) hr hx
      · unfold e2
        simp only [rd_o (hg _ ht), hr, Rs.bind_ok]
        exact ixD_seq (.inr (val_b (hg _ ht))) hx
    · show ((Γ.set w none).set w _).set w none = Γ.set w none
      simp
theorem con_ok {f : X1} {g : X2} {Γ Γ1 Γ2 : G} {e : E} {es : List E} (hf : f Γ = .ok Γ1 e) (hg : g Γ1 = .ok Γ2 es) : conA f g Γ = .ok Γ2 (e :: es) := by
  unfold conA; rw [hf]; simp only [Rs.bind_ok, hg]
/-- a pair, a triple of unchanging things -/
theorem tup2 {f g : X1} {Γ Γ1 Γ2 : G} {x y : P} (hf : f Γ = .ok Γ1 (.p x)) (hg : g Γ1 = .ok Γ2 (.p y)) : tupE (conA f (conA g nilA)) Γ = .ok Γ2 (.p (.tup [x, y])) :=
  tup_p (ps := [x, y]) (con_ok hf (con_ok hg rfl)) (by simp)
theorem tup3 {f g h : X1} {Γ Γ1 Γ2 Γ3 : G} {x y z : P} (hf : f Γ = .ok Γ1 (.p x)) (hg : g Γ1 = .ok Γ2 (.p y)) (hh : h Γ2 = .ok Γ3 (.p z)) : tupE (conA f (conA g (conA h nilA))) Γ = .ok Γ3 (.p (.tup [x, y, z])) :=
  tup_p (ps := [x, y, z]) (con_ok hf (con_ok hg (con_ok hh rfl))) (by simp)
/-! ### _the sign at a stand -/
theorem txts_get {l : List Str} {i : Nat} {x : Str} (h : l[i]? = some x) : (txts l)[i]? = some (.str x) := by unfold txts; rw [List.getElem?_map, h]; rfl
theorem in_txts {f g : X1} {Γ Γ1 Γ2 : G} {b : E} {v : Str} {l : List Str} (hf : f Γ = .ok Γ1 (.p (.str v))) (hg : g Γ1 = .ok Γ2 b) (hb : pseq Γ2 b = some (txts l)) : e2 inE f g Γ = .ok Γ2 (.p (.bl (decide (v ∈ l)))) := by
  unfold e2
  simp only [hf, hg, Rs.bind_ok]
  unfold inE
  rw [inOf_txts hb]
theorem ni_txts {f g : X1} {Γ Γ1 Γ2 : G} {b : E} {v : Str} {l : List Str} (hf : f Γ = .ok Γ1 (.p (.str v))) (hg : g Γ1 = .ok Γ2 b) (hb : pseq Γ2 b = some (txts l)) : e2 niE f g Γ = .ok Γ2 (.p (.bl (decide (v ∉ l)))) := by
  unfold e2
  simp only [hf, hg, Rs.bind_ok]
  unfold niE
  rw [inOf_txts hb]
  simp
theorem tst_ok {f : X1} {Γ Γ1 : G} {c : Bool} (h : f Γ = .ok Γ1 (.p (.bl c))) : tst f Γ = .ok Γ1 c := by unfold tst; rw [h]; rfl
theorem ixT_txts {f g : X1} {Γ Γ1 Γ2 : G} {v : Str} {l : List Str} (hf : f Γ = .ok Γ1 (.p (.tup (txts l)))) (hg : g Γ1 = .ok Γ2 (.p (.str v))) (hv : v ∈ l) : e2r isT (ixO tseq) f g Γ = .ok Γ2 (.p (.int (fix l v : Nat))) := by
  unfold e2r
  rw [hf]
  simp only [Rs.bind_ok]
  have hi : isT Γ1 (E.p (P.tup (txts l))) = true := rfl
  rw [if_pos hi, hg, Rs.bind_ok]
  exact ixO_txts rfl hv
theorem txts_len (l : List Str) : (txts l).length = l.length := by simp [txts]
theorem nats_len (l : List Nat) : (nats l).length = l.length := by simp [nats]
theorem len_tup {f : X1} {Γ Γ1 : G} {xs : List P} (h : f Γ = .ok Γ1 (.p (.tup xs))) : e1 lenE f Γ = .ok Γ1 (.p (.int (xs.length : Nat))) := by
  unfold e1; rw [h]; rfl
theorem sign_ok (m : Mac) (st : St Str) (v : Str) : ∃ Γ, F_sign_at [.p m.p, .p (stP st), .p (.str v)] = .ok Γ (.p (.int (sgn m.words st.2 v : Nat))) := by
  let Γ0 : G := [some (.p m.p), some (.p (stP st)), some (.p (.str v)), some (.p (.tup (txts m.words))), some (.p (.tup (nats m.boxes))), some (.p (.tup (nats m.yes))), some (.p (.tup (m.lines.map linP)))]
  refine ⟨Γ0, fnE_p ?_⟩
  show b_sign_at [some (.p m.p), some (.p (stP st)), some (.p (.str v)), none, none, none, none] = _
  unfold b_sign_at
  rw [seqS_nx (Γ1 := Γ0) (asgP rfl rfl)]
  have hc : tst (e2 inE (rd 2) (rd 3)) Γ0 = .ok Γ0 (decide (v ∈ m.words)) := tst_ok (in_txts rfl rfl rfl)
  have h1 : e2 ixD (rd 1) (cE (.int 1)) Γ0 = .ok Γ0 (.p (.tup (txts st.2))) := rfl
  by_cases hw : v ∈ m.words
  · rw [decide_eq_true hw] at hc
    rw [seqS_rt (Γ1 := Γ0) (e := .p (.int (fix m.words v : Nat)))]
    · rw [sgn_w hw]
    · rw [ifS_t hc]
      exact retP (ixT_txts rfl rfl hw)
  · rw [decide_eq_false hw] at hc
    rw [seqS_nx (Γ1 := Γ0) (by rw [ifS_f hc]; rfl)]
    refine retP ?_
    have hc2 : tst (e2 inE (rd 2) (e2 ixD (rd 1) (cE (.int 1)))) Γ0 = .ok Γ0 (decide (v ∈ st.2)) := tst_ok (in_txts rfl h1 rfl)
    have ha : e1 lenE (rd 3) Γ0 = .ok Γ0 (.p (.int (m.words.length : Nat))) := by rw [len_tup (xs := txts m.words) rfl, txts_len]
    by_cases hv : v ∈ st.2
    · rw [decide_eq_true hv] at hc2
      rw [sgn_v hw hv]
      simp [e2, ha, ifE, hc2, ixT_txts h1 (g := rd 2) rfl hv, opI]
    · rw [decide_eq_false hv] at hc2
      rw [sgn_n hw hv]
      simp [e2, ha, ifE, hc2, len_tup h1, opI, txts_len]
def pyA (m : Mac) (st : St Str) (v : Str) : P := .tup (txts (an1 m.lines m.words st v))
theorem txts_app (a b : List Str) : txts (a ++ b) = txts a ++ txts b := by simp [txts]
theorem lin_get {m : Mac} {q : Nat} {l : List Ent} (h : m.lines[q]? = some l) : (m.lines.map linP)[q]? = some (.tup (l.map entP)) := by rw [List.getElem?_map, h]; rfl
theorem ent_get {l : List Ent} {s : Nat} {e : Ent} (h : l[s]? = some e) : (l.map entP)[s]? = some (.tup [.tup (nats e.ans), nat' e.to, .tup (nats e.fills)]) := by rw [List.getElem?_map, h]; rfl
/-- _the entry of a machine at a stand and a value -/
theorem behind_ok {m : Mac} (hm : m.Ok) {st : St Str} (hst : StOk m.words m.boxes st) (v : Str) : ∃ Γ, F_stand_behind [.p m.p, .p (stP st), .p (.str v)] = .ok Γ (.p (.tup [pyA m st v, stP (rd1 m.lines m.words st v)])) := by
  obtain ⟨l, k1, k2, k3, k4⟩ := hm.l.at hst.b (sgn_lt m.words st.2 v)
  generalize he : M.ent m.lines st.1 (sgn m.words st.2 v) = e at k3 k4
  have hts : txts m.words ++ (txts st.2 ++ [.str v]) = txts (things m.words st.2 v) := by simp [things, txts]
  have lt : (txts (things m.words st.2 v)).length = m.words.length + st.2.length + 1 := by rw [txts_len, things_len]
  have la : ∀ a ∈ e.ans, a < (txts (things m.words st.2 v)).length := fun a ha => by rw [lt]; exact Nat.lt_of_lt_of_le (k4.an a ha) (hand_le ..)
  have lf : ∀ a ∈ e.fills, a < (txts (things m.words st.2 v)).length := fun a ha => by rw [lt]; exact Nat.lt_of_lt_of_le (k4.fr a ha).2 (hand_le ..)
  have b2 : st.2.length ≤ 2 := hm.bl _ (List.mem_of_getElem? hst.b)
  have fl : e.fills.length ≤ 2 := hm.bl _ (List.mem_of_getElem? k4.fl)
  have wl := hm.wl
  obtain ⟨Γs, hs⟩ := sign_ok m st v
  let S : Option E := some (.p (.int (sgn m.words st.2 v : Nat)))
  let Th : Option E := some (.p (.tup (txts (things m.words st.2 v))))
  let Γ0 : G := [some (.p m.p), some (.p (stP st)), some (.p (.str v)), none, none, none, none, none, none]
  let Γ1 : G := [some (.p m.p), some (.p (stP st)), some (.p (.str v)), S, none, none, none, none, none]
  let Γ2 : G := [some (.p m.p), some (.p (stP st)), some (.p (.str v)), S, Th, none, none, none, none]
  let Γ3 : G := [some (.p m.p), some (.p (stP st)), some (.p (.str v)), S, Th, some (.p (.tup (nats e.ans))), some (.p (nat' e.to)), some (.p (.tup (nats e.fills))), none]
  refine ⟨Γ3, fnE_p ?_⟩
  show b_stand_behind Γ0 = _
  unfold b_stand_behind
  rw [seqS_nx (Γ1 := Γ1) (asgP (call_p rfl hs) rfl)]
  have hth : tupE (starA (e2 ixD (rd 0) (cE (.int 0))) (starA (e2 ixD (rd 1) (cE (.int 1))) (conA (rd 2) nilA))) Γ1 = .ok Γ1 (.p (.tup (txts (things m.words st.2 v)))) := by
    refine tup_p ?_ (by rw [lt]; omega)
    rw [← hts]
    simp only [List.map_append, List.map_cons, List.map_nil]
    rfl
  rw [seqS_nx (Γ1 := Γ2) (asgP hth rfl)]
  have hen : e2 ixD (e2 ixD (e2 ixD (rd 0) (cE (.int 3))) (e2 ixD (rd 1) (cE (.int 0)))) (rd 3) Γ2 = .ok Γ2 (.p (.tup [.tup (nats e.ans), nat' e.to, .tup (nats e.fills)])) :=
    ix_ok (ix_ok (xs := m.lines.map linP) rfl (i := st.1) rfl (lin_get k1)) rfl (ent_get k3)
  rw [seqS_nx (Γ1 := Γ3) (asgP hen rfl)]
  have c1 := comp_picks (Γ := Γ3) (a := 5) (t := 4) (w := 8) rfl (.inl rfl) (by decide) (by simp [Γ3]) la (by have := k4.al; omega)
  have c2 := comp_picks (Γ := Γ3) (a := 7) (t := 4) (w := 8) rfl (.inl rfl) (by decide) (by simp [Γ3]) lf (by omega)
  have w3 : Γ3.set 8 none = Γ3 := rfl
  rw [w3] at c1 c2
  have h := tup2 (tupO_ok c1) (tup2 (f := rd 6) (x := nat' e.to) rfl (tupO_ok c2))
  refine (retP h).trans ?_
  unfold txts
  rw [picks_map, picks_map]
  unfold pyA stP rd1 an1 nxt M.ans
  rw [he]
  rfl
end Kv.W

set_option Elab.async false
set_option linter.all false
set_option maxRecDepth 100000
set_option maxHeartbeats 4000000
set_option autoImplicit false
/-! the plain law of k46: rows read, streams fed -/
namespace Kv.W
open PySem PySem.Spec L2 Kv M
variable [Tbl]
theorem app_ok {f : X1} {Γ : G} {i : Nat} {xs : List P} {y : P} (hi : Γ[i]? = some (some (.o (.lst (xs.map .p))))) (hf : f Γ = .ok Γ (.p y)) (hl : xs.length < 1000000) : dropS (e2r isL appO (rd i) (own f)) Γ = .nx (Γ.set i (some (.o (.lst ((xs ++ [y]).map .p))))) := by
  have h1 : isL Γ (.b i) = true := by unfold isL; rw [val_b hi]
  have h2 : appO Γ (.b i) (.p y) = .ok (Γ.set i (some (.o (.lst ((xs ++ [y]).map .p))))) (.p .non) := by
    show (match Γ[i]?, gat [.p y] with | some (some (.o (.lst ds))), some [d] => if ds.length < 1000000 then Rs.ok (Γ.set i (some (.o (.lst (ds ++ [d]))))) (E.p .non) else .bad | _, _ => .bad) = _
    rw [hi]
    show (if (xs.map D.p).length < 1000000 then Rs.ok (Γ.set i (some (.o (.lst (xs.map D.p ++ [D.p y]))))) (E.p .non) else .bad) = _
    rw [if_pos (by simpa using hl)]
    simp
  unfold dropS e2r
  rw [rd_o hi]
  simp only [Rs.bind_ok]
  rw [if_pos h1, own_p hf]
  simp only [Rs.bind_ok, h2]
  rfl
theorem cat_ok {f g : X1} {Γ Γ1 Γ2 : G} {a b : E} {xs ys : List P} (hf : f Γ = .ok Γ1 a) (hg : g Γ1 = .ok Γ2 b) (ha : plst Γ2 a = some xs) (hb : plst Γ2 b = some ys) (hl : xs.length + ys.length ≤ 1000000) : e2 catL f g Γ = .ok Γ2 (.o (.lst ((xs ++ ys).map .p))) := by
  unfold e2
  simp only [hf, hg, Rs.bind_ok]
  unfold catL
  rw [ha, hb]
  exact if_pos hl
theorem plst_o {Γ : G} (xs : List P) : plst Γ (.o (.lst (xs.map .p))) = some xs := unP_map xs
theorem plst_b {Γ : G} {i : Nat} {xs : List P} (h : Γ[i]? = some (some (.o (.lst (xs.map .p))))) : plst Γ (.b i) = some xs := by
  unfold plst; rw [val_b h]; exact unP_map xs
theorem lst_ok {f : X1} {Γ Γ1 : G} {xs : List P} (h : f Γ = .ok Γ1 (.p (.tup xs))) : e1 lstO f Γ = .ok Γ1 (.o (.lst (xs.map .p))) := by
  unfold e1; rw [h]; rfl
theorem ixL_txts {f : X1} {Γ : G} {i : Nat} {v : Str} {l : List Str} (hi : Γ[i]? = some (some (.o (.lst ((txts l).map .p))))) (hg : f Γ = .ok Γ (.p (.str v))) (hv : v ∈ l) : e2r isL (ixO lseq) (rd i) f Γ = .ok Γ (.p (.int (fix l v : Nat))) := by
  have h1 : isL Γ (.b i) = true := by unfold isL; rw [val_b hi]
  unfold e2r
  rw [rd_o hi]
  simp only [Rs.bind_ok]
  rw [if_pos h1, hg, Rs.bind_ok]
  exact ixO_txts (lseq_b hi) hv
theorem par_ok {i j : Nat} {f h : X1} {Γ Γ1 Γ2 : G} {a b : E} (hf : own f Γ = .ok Γ1 a) (hh : own h Γ1 = .ok Γ2 b) : parS i j f h Γ = .nx ((Γ2.set j (some b)).set i (some a)) := by
  unfold parS
  simp only [hf, Rs.out, hh]
theorem tupO_b {Γ : G} {i : Nat} {xs : List P} (h : Γ[i]? = some (some (.o (.lst (xs.map .p))))) : e1 tupO (rd i) Γ = .ok Γ (.p (.tup xs)) := by
  unfold e1 tupO
  rw [rd_o h]
  simp only [Rs.bind_ok, pseq_b h]
theorem sgn_fix (ws vs : List Str) (v : Str) : sgn ws vs v = fix (things ws vs v) v := rfl
def ansP (l : List (List Str)) : P := .tup (l.map fun a => .tup (txts a))
theorem ansP_snoc (l : List (List Str)) : (l.map fun a => P.tup (txts a)) = l.map fun a => P.tup (txts a) := rfl
theorem mem_things (ws vs : List Str) (v : Str) : v ∈ things ws vs v := by simp [things]
abbrev readB : X3 := seqS (asgS (nmT 6) (e2 catL (e2 catL (rd 4) (e1 lstO (e2 ixD (rd 1) (cE (.int 1))))) (lstE (conA (rd 5) nilA))))
    (seqS (asgS (tupT 3 (conT (nmT 7) (conT (nmT 8) (conT (nmT 9) nilT)))) (e2 ixD (e2 ixD (e2 ixD (rd 0) (cE (.int 3))) (e2 ixD (rd 1) (cE (.int 0)))) (e2r isL (ixO lseq) (rd 6) (rd 5))))
    (seqS (dropS (e2r isL appO (rd 3) (own (e1 tupO (lcE (sqI (rd 7)) [10] (nmT 10) yesB (e2 ixD (rd 6) (rd 10)))))))
    (asgS (nmT 1) (tupE (conA (rd 8) (conA (e1 tupO (lcE (sqI (rd 9)) [10] (nmT 10) yesB (e2 ixD (rd 6) (rd 10)))) nilA))))))
theorem readB_ok {m : Mac} (hm : m.Ok) {st : St Str} (hst : StOk m.words m.boxes st) (v : Str) (row : Option E) (acc : List P) (hl : acc.length < 1000000) (x6 x7 x8 x9 : Option E) : ∃ y6 y7 y8 y9 : Option E,
    readB [some (.p m.p), some (.p (stP st)), row, some (.o (.lst (acc.map .p))), some (.o (.lst ((txts m.words).map .p))), some (.p (.str v)), x6, x7, x8, x9, none] =
      .nx [some (.p m.p), some (.p (stP (rd1 m.lines m.words st v))), row, some (.o (.lst ((acc ++ [pyA m st v]).map .p))), some (.o (.lst ((txts m.words).map .p))), some (.p (.str v)), y6, y7, y8, y9, none] := by
  obtain ⟨l, k1, k2, k3, k4⟩ := hm.l.at hst.b (sgn_lt m.words st.2 v)
  generalize he : M.ent m.lines st.1 (sgn m.words st.2 v) = e at k3 k4
  have lt : (txts (things m.words st.2 v)).length = m.words.length + st.2.length + 1 := by rw [txts_len, things_len]
  have la : ∀ a ∈ e.ans, a < (txts (things m.words st.2 v)).length := fun a ha => by rw [lt]; exact Nat.lt_of_lt_of_le (k4.an a ha) (hand_le ..)
  have lf : ∀ a ∈ e.fills, a < (txts (things m.words st.2 v)).length := fun a ha => by rw [lt]; exact Nat.lt_of_lt_of_le (k4.fr a ha).2 (hand_le ..)
  have b2 : st.2.length ≤ 2 := hm.bl _ (List.mem_of_getElem? hst.b)
  have fl : e.fills.length ≤ 2 := hm.bl _ (List.mem_of_getElem? k4.fl)
  have wl := hm.wl
  let Th : Option E := some (.o (.lst ((txts (things m.words st.2 v)).map .p)))
  let A : Option E := some (.o (.lst (acc.map .p)))
  let Ws : Option E := some (.o (.lst ((txts m.words).map .p)))
  let Γ0 : G := [some (.p m.p), some (.p (stP st)), row, A, Ws, some (.p (.str v)), x6, x7, x8, x9, none]
  let Γ1 : G := [some (.p m.p), some (.p (stP st)), row, A, Ws, some (.p (.str v)), Th, x7, x8, x9, none]
  let Γ2 : G := [some (.p m.p), some (.p (stP st)), row, A, Ws, some (.p (.str v)), Th, some (.p (.tup (nats e.ans))), some (.p (nat' e.to)), some (.p (.tup (nats e.fills))), none]
  let Γ3 : G := [some (.p m.p), some (.p (stP st)), row, some (.o (.lst ((acc ++ [pyA m st v]).map .p))), Ws, some (.p (.str v)), Th, some (.p (.tup (nats e.ans))), some (.p (nat' e.to)), some (.p (.tup (nats e.fills))), none]
  refine ⟨Th, some (.p (.tup (nats e.ans))), some (.p (nat' e.to)), some (.p (.tup (nats e.fills))), ?_⟩
  show readB Γ0 = _
  unfold readB
  have h1 : e2 catL (e2 catL (rd 4) (e1 lstO (e2 ixD (rd 1) (cE (.int 1))))) (lstE (conA (rd 5) nilA)) Γ0 = .ok Γ0 (.o (.lst ((txts (things m.words st.2 v)).map .p))) := by
    have a1 : e1 lstO (e2 ixD (rd 1) (cE (.int 1))) Γ0 = .ok Γ0 (.o (.lst ((txts st.2).map .p))) := lst_ok rfl
    have a2 : e2 catL (rd 4) (e1 lstO (e2 ixD (rd 1) (cE (.int 1)))) Γ0 = .ok Γ0 (.o (.lst ((txts m.words ++ txts st.2).map .p))) :=
      cat_ok (xs := txts m.words) (ys := txts st.2) (rd_o rfl) a1 (plst_b rfl) (plst_o _) (by rw [txts_len, txts_len]; omega)
    have a3 : lstE (conA (rd 5) nilA) Γ0 = .ok Γ0 (.o (.lst ([P.str v].map .p))) := by
      unfold lstE; rw [con_ok (e := .p (.str v)) (es := []) rfl rfl]; simp [gat]
    rw [cat_ok (xs := txts m.words ++ txts st.2) (ys := [P.str v]) a2 a3 (plst_o _) (plst_o _) (by rw [List.length_append, txts_len, txts_len]; simp; omega)]
    simp [things, txts]
  rw [seqS_nx (Γ1 := Γ1) (asgO h1 rfl)]
  have h2 : e2 ixD (e2 ixD (e2 ixD (rd 0) (cE (.int 3))) (e2 ixD (rd 1) (cE (.int 0)))) (e2r isL (ixO lseq) (rd 6) (rd 5)) Γ1 = .ok Γ1 (.p (.tup [.tup (nats e.ans), nat' e.to, .tup (nats e.fills)])) :=
    ix_ok (i := sgn m.words st.2 v) (ix_ok (xs := m.lines.map linP) rfl (i := st.1) rfl (lin_get k1)) (ixL_txts (l := things m.words st.2 v) rfl rfl (mem_things ..)) (ent_get k3)
  rw [seqS_nx (Γ1 := Γ2) (asgP h2 rfl)]
  have c1 := comp_picks (Γ := Γ2) (a := 7) (t := 6) (w := 10) rfl (.inr rfl) (by decide) (by simp [Γ2]) la (by have := k4.al; omega)
  have w2 : Γ2.set 10 none = Γ2 := rfl
  rw [w2] at c1
  have hA : P.tup (picks (txts (things m.words st.2 v)) e.ans) = pyA m st v := by
    unfold txts; rw [picks_map]; unfold pyA an1 M.ans; rw [he]; rfl
  rw [seqS_nx (Γ1 := Γ3) (by rw [app_ok (y := pyA m st v) (xs := acc) rfl (by rw [tupO_ok c1, hA]) hl]; rfl)]
  have c2 := comp_picks (Γ := Γ3) (a := 9) (t := 6) (w := 10) rfl (.inr rfl) (by decide) (by simp [Γ3]) lf (by omega)
  have w3 : Γ3.set 10 none = Γ3 := rfl
  rw [w3] at c2
  have hS : P.tup [nat' e.to, .tup (picks (txts (things m.words st.2 v)) e.fills)] = stP (rd1 m.lines m.words st v) := by
    unfold txts; rw [picks_map]; unfold stP rd1 nxt; rw [he]; rfl
  have h3 := tup2 (Γ := Γ3) (Γ1 := Γ3) (f := rd 8) (x := nat' e.to) rfl (tupO_ok c2)
  rw [hS] at h3
  exact asgP h3 rfl
theorem read_loop {m : Mac} (hm : m.Ok) (rowE : Option E) : ∀ (row : List Str) (st : St Str) (acc : List P) (x5 x6 x7 x8 x9 : Option E), StOk m.words m.boxes st → acc.length + row.length ≤ 1000000 → ∃ y5 y6 y7 y8 y9 : Option E,
    forL (nmT 5) readB (row.map fun v => .p (.str v)) [some (.p m.p), some (.p (stP st)), rowE, some (.o (.lst (acc.map .p))), some (.o (.lst ((txts m.words).map .p))), x5, x6, x7, x8, x9, none] =
      .nx [some (.p m.p), some (.p (stP (runS m.lines m.words st row))), rowE, some (.o (.lst ((acc ++ (runA m.lines m.words st row).map fun a => P.tup (txts a)).map .p))), some (.o (.lst ((txts m.words).map .p))), y5, y6, y7, y8, y9, none]
  | [], st, acc, x5, x6, x7, x8, x9, _, _ => ⟨x5, x6, x7, x8, x9, by simp [forL, runS, runA]⟩
  | v :: row, st, acc, x5, x6, x7, x8, x9, hst, hl => by
    obtain ⟨y6, y7, y8, y9, h⟩ := readB_ok hm hst v rowE acc (by simp at hl; omega) x6 x7 x8 x9
    obtain ⟨z5, z6, z7, z8, z9, h'⟩ := read_loop hm rowE row (rd1 m.lines m.words st v) (acc ++ [pyA m st v]) (some (.p (.str v))) y6 y7 y8 y9 (rd1_ok v hm.l hst).1 (by simp at hl ⊢; omega)
    refine ⟨z5, z6, z7, z8, z9, ?_⟩
    rw [List.map_cons, forL_cons (Γ1 := [some (.p m.p), some (.p (stP st)), rowE, some (.o (.lst (acc.map .p))), some (.o (.lst ((txts m.words).map .p))), some (.p (.str v)), x6, x7, x8, x9, none]) rfl h, h']
    simp [runS, runA, pyA]
/-- _the law's own reading -/
theorem read_ok {m : Mac} (hm : m.Ok) {st : St Str} (hst : StOk m.words m.boxes st) (row : List Str) (hl : row.length ≤ 1000000) : ∃ Γ, F__law_read [.p m.p, .p (stP st), .p (.tup (txts row))] = .ok Γ (.p (.tup [ansP (runA m.lines m.words st row), stP (runS m.lines m.words st row)])) := by
  obtain ⟨y5, y6, y7, y8, y9, h⟩ := read_loop hm (some (.p (.tup (txts row)))) row st [] none none none none none hst (by simpa using hl)
  refine ⟨_, fnE_p (Γ := [some (.p m.p), some (.p (stP (runS m.lines m.words st row))), some (.p (.tup (txts row))), some (.o (.lst (((runA m.lines m.words st row).map fun a => P.tup (txts a)).map .p))), some (.o (.lst ((txts m.words).map .p))), y5, y6, y7, y8, y9, none]) ?_⟩
  let Γ0 : G := [some (.p m.p), some (.p (stP st)), some (.p (.tup (txts row))), none, none, none, none, none, none, none, none]
  let Γ1 : G := [some (.p m.p), some (.p (stP st)), some (.p (.tup (txts row))), some (.o (.lst [])), some (.o (.lst ((txts m.words).map .p))), none, none, none, none, none, none]
  show b__law_read Γ0 = _
  unfold b__law_read
  have hp : parS 3 4 (lstE nilA) (e1 lstO (e2 ixD (rd 0) (cE (.int 0)))) Γ0 = .nx Γ1 := by
    have a1 : e1 lstO (e2 ixD (rd 0) (cE (.int 0))) Γ0 = .ok Γ0 (.o (.lst ((txts m.words).map .p))) := lst_ok rfl
    have a0 : lstE nilA Γ0 = .ok Γ0 (.o (.lst [])) := rfl
    exact par_ok (own_o a0) (own_o a1)
  rw [seqS_nx hp]
  have hit : sqI (rd 2) Γ1 = .ok Γ1 (.p (.tup (txts row)), row.map fun v => .p (.str v)) := by
    rw [sqI_tup (xs := txts row) (rd_p rfl)]; simp [txts, Function.comp_def]
  rw [seqS_nx (by rw [forS_eq hit]; exact h)]
  simp only [List.nil_append]
  exact retP (tup2 (f := e1 tupO (rd 3)) (tupO_b rfl) (rd_p (i := 1) rfl))
end Kv.W

set_option Elab.async false
set_option linter.all false
set_option maxRecDepth 100000
set_option maxHeartbeats 4000000
set_option autoImplicit false
/-! the plain law of k46: streams -/
namespace Kv.W
open PySem PySem.Spec L2 Kv M
variable [Tbl]
def strP (sts : List (St Str)) : P := .tup (sts.map stP)
theorem fnE_ex {n : Nat} {b : X3} {es : List E} {c : Exn} (h : b (es.map some ++ List.replicate n none) = .ex c) : fnE n b es = .ex c := by unfold fnE; rw [h]
theorem star_p {f : X1} {g : X2} {Γ Γ1 Γ2 : G} {xs ys : List P} (hf : f Γ = .ok Γ1 (.p (.tup xs))) (hg : g Γ1 = .ok Γ2 (ys.map .p)) : starA f g Γ = .ok Γ2 ((xs ++ ys).map .p) := by
  unfold starA
  simp only [hf, Rs.bind_ok, pseq_t, hg, List.map_append]
theorem ix_last {f : X1} {Γ Γ1 : G} {xs : List P} {x : P} (hf : f Γ = .ok Γ1 (.p (.tup (xs ++ [x])))) : e2 ixD f (e1 negI (cE (.int 1))) Γ = .ok Γ1 (.p x) := by
  unfold e2
  simp only [hf, Rs.bind_ok, e1, cE, negI]
  unfold ixD
  have h : val Γ1 (.p (.tup (xs ++ [x]))) = some (.p (.tup (xs ++ [x]))) := rfl
  have e : -(1 : Int) = -1 := rfl
  simp only [h, e, atI_last]
theorem present_ok (pre : List (St Str)) (st : St Str) : F_present_stand [.p (strP (pre ++ [st]))] = .ok [some (.p (strP (pre ++ [st])))] (.p (stP st)) := by
  refine fnE_p ?_
  show b_present_stand [some (.p (strP (pre ++ [st])))] = _
  unfold b_present_stand
  exact retP (ix_last (xs := pre.map stP) (by unfold strP; rw [List.map_append]; rfl))
theorem kept_ok (pre : List (St Str)) (st : St Str) : ∃ Γ, F_values_kept [.p (strP (pre ++ [st]))] = .ok Γ (.p (.tup (txts st.2))) := by
  refine ⟨[some (.p (strP (pre ++ [st])))], fnE_p ?_⟩
  show b_values_kept [some (.p (strP (pre ++ [st])))] = _
  unfold b_values_kept
  exact retP (ix_ok (i := 1) (xs := [nat' st.1, .tup (txts st.2)]) (call_p (con_ok (rd_p rfl) rfl) (present_ok pre st)) rfl rfl)
theorem flats_nats : ∀ l : List Nat, flats (nats l) = some (l.map fun n : Nat => V.int (n : Int))
  | [] => rfl
  | x :: l => by
    have := flats_nats l
    unfold nats at this ⊢
    rw [List.map_cons]
    unfold flats
    rw [this]; rfl
theorem inOf_nats {Γ : G} {b : E} {l : List Nat} (h : pseq Γ b = some (nats l)) (v : Nat) : inOf Γ (.p (.int v)) b = some (decide (v ∈ l)) := by
  unfold inOf
  rw [h]
  show (match some (V.int v), flats (nats l) with | some v, some ws => some (inV v ws) | _, _ => none) = _
  rw [flats_nats]
  show some (inV (.int v) (l.map fun n : Nat => V.int (n : Int))) = _
  congr 1
  unfold inV
  rw [List.any_map, Bool.eq_iff_iff]
  simp only [List.any_eq_true, Function.comp, eqV, decide_eq_true_eq, beq_iff_eq]
  constructor
  · rintro ⟨x, hx, e⟩
    have : x = v := by omega
    exact this ▸ hx
  · exact fun h => ⟨v, h, rfl⟩
theorem in_nats {f g : X1} {Γ Γ1 Γ2 : G} {b : E} {v : Nat} {l : List Nat} (hf : f Γ = .ok Γ1 (.p (.int v))) (hg : g Γ1 = .ok Γ2 b) (hb : pseq Γ2 b = some (nats l)) : e2 inE f g Γ = .ok Γ2 (.p (.bl (decide (v ∈ l)))) := by
  unfold e2
  simp only [hf, hg, Rs.bind_ok]
  unfold inE
  rw [inOf_nats hb]
theorem yes_ok (m : Mac) (pre : List (St Str)) (st : St Str) : ∃ Γ, F_says_yes_now [.p m.p, .p (strP (pre ++ [st]))] = .ok Γ (.p (.bl (decide (st.1 ∈ m.yes)))) := by
  refine ⟨[some (.p m.p), some (.p (strP (pre ++ [st])))], fnE_p ?_⟩
  show b_says_yes_now [some (.p m.p), some (.p (strP (pre ++ [st])))] = _
  unfold b_says_yes_now
  refine retP (in_nats (v := st.1) (ix_ok (i := 0) (xs := [nat' st.1, .tup (txts st.2)]) (call_p (con_ok (rd_p rfl) rfl) (present_ok pre st)) rfl rfl) (ix_ok (i := 2) (xs := [.tup (txts m.words), .tup (nats m.boxes), .tup (nats m.yes), .tup (m.lines.map linP)]) (rd_p rfl) rfl rfl) rfl)
theorem first_ok : F_first_stream [] = .ok [] (.p (strP [(0, [])])) := rfl
theorem eq_int {Γ : G} {a b : Int} : eqE Γ (.p (.int a)) (.p (.int b)) = .ok Γ (.p (.bl (decide (a = b)))) := by
  unfold eqE eqOf
  show (match (if SeqAt.shaped (PyData.int a) = true ∧ SeqAt.shaped (PyData.int b) = true then some (PyData.eqv (.int a) (.int b)) else none) with | some c => Rs.ok Γ (E.p (.bl c)) | none => .bad) = _
  rw [if_pos ⟨rfl, rfl⟩]
  show Rs.ok Γ (E.p (.bl (a == b))) = _
  have : (a == b) = decide (a = b) := by rw [Bool.eq_iff_iff]; simp
  rw [this]
theorem ne_int {Γ : G} {a b : Int} : neE Γ (.p (.int a)) (.p (.int b)) = .ok Γ (.p (.bl (!decide (a = b)))) := by
  unfold neE eqOf
  show (match (if SeqAt.shaped (PyData.int a) = true ∧ SeqAt.shaped (PyData.int b) = true then some (PyData.eqv (.int a) (.int b)) else none) with | some c => Rs.ok Γ (E.p (.bl (!c))) | none => .bad) = _
  rw [if_pos ⟨rfl, rfl⟩]
  show Rs.ok Γ (E.p (.bl (!(a == b)))) = _
  have : (a == b) = decide (a = b) := by rw [Bool.eq_iff_iff]; simp
  rw [this]
theorem eqI_ok {f g : X1} {Γ Γ1 Γ2 : G} {a b : Int} (hf : f Γ = .ok Γ1 (.p (.int a))) (hg : g Γ1 = .ok Γ2 (.p (.int b))) : e2 eqE f g Γ = .ok Γ2 (.p (.bl (decide (a = b)))) := by
  unfold e2; simp only [hf, hg, Rs.bind_ok]; exact eq_int
theorem neI_ok {f g : X1} {Γ Γ1 Γ2 : G} {a b : Int} (hf : f Γ = .ok Γ1 (.p (.int a))) (hg : g Γ1 = .ok Γ2 (.p (.int b))) : e2 neE f g Γ = .ok Γ2 (.p (.bl (!decide (a = b)))) := by
  unfold e2; simp only [hf, hg, Rs.bind_ok]; exact ne_int
theorem sl_last {f : X1} {Γ Γ1 : G} {xs : List P} {x : P} (hf : f Γ = .ok Γ1 (.p (.tup (xs ++ [x])))) : slE f noP (soP (e1 negI (cE (.int 1)))) Γ = .ok Γ1 (.p (.tup xs)) := by
  unfold slE
  simp only [hf, Rs.bind_ok, noP, soP, e1, cE, negI]
  have h : val Γ1 (.p (.tup (xs ++ [x]))) = some (.p (.tup (xs ++ [x]))) := rfl
  simp only [h]
  have : cut (xs ++ [x]) none (some (-(1 : Int))) = xs := by
    unfold cut
    have h1 : HT.sIx (xs ++ [x]).length 0 none = 0 := rfl
    have h2 : HT.sIx (xs ++ [x]).length (xs ++ [x]).length (some (-1)) = xs.length := by
      unfold HT.sIx
      simp
      omega
    rw [h1, h2]; simp
  rw [this]
theorem back_ok {pre : List (St Str)} {st : St Str} (h : pre ≠ []) : ∃ Γ, F_taken_back [.p (strP (pre ++ [st]))] = .ok Γ (.p (strP pre)) := by
  refine ⟨[some (.p (strP (pre ++ [st])))], fnE_p ?_⟩
  show b_taken_back [some (.p (strP (pre ++ [st])))] = _
  unfold b_taken_back
  have h0 : 0 < pre.length := List.length_pos_iff.mpr h
  have hc : tst (e2 eqE (e1 lenE (rd 0)) (cE (.int 1))) [some (.p (strP (pre ++ [st])))] = .ok [some (.p (strP (pre ++ [st])))] false := by
    refine tst_ok ?_
    rw [eqI_ok (b := 1) (len_tup (xs := (pre ++ [st]).map stP) (rd_p rfl)) rfl]
    have h1 : ¬ ((((pre ++ [st]).map stP).length : Nat) : Int) = 1 := by simp; omega
    rw [decide_eq_false h1]
  rw [seqS_nx (by rw [ifS_f hc]; rfl)]
  exact retP (sl_last (xs := pre.map stP) (x := stP st) (by unfold strP; rw [List.map_append]; rfl))
theorem back_ex (st : St Str) : F_taken_back [.p (strP [st])] = .ex ⟨"NothingDone", []⟩ := by
  have hc : tst (e2 eqE (e1 lenE (rd 0)) (cE (.int 1))) [some (.p (strP [st]))] = .ok [some (.p (strP [st]))] true := by
    refine tst_ok ?_
    rw [eqI_ok (b := 1) (len_tup (xs := [stP st]) (rd_p rfl)) rfl]
    rfl
  refine fnE_ex ?_
  show b_taken_back [some (.p (strP [st]))] = _
  unfold b_taken_back
  exact seqS_ex (by rw [ifS_t hc]; rfl)
noncomputable abbrev fedB : X3 := seqS (asgS (tupT 2 (conT (nmT 6) (conT (nmT 4) nilT))) (callN [false, false, false] F_stand_behind (conA (rd 0) (conA (rd 4) (conA (rd 5) nilA)))))
    (dropS (e2r isL appO (rd 3) (own (rd 6))))
theorem fed_loop {m : Mac} (hm : m.Ok) (strE rowE : Option E) : ∀ (row : List Str) (st : St Str) (acc : List P) (x5 x6 : Option E), StOk m.words m.boxes st → acc.length + row.length ≤ 1000000 → ∃ y5 y6 : Option E,
    forL (nmT 5) fedB (row.map fun v => .p (.str v)) [some (.p m.p), strE, rowE, some (.o (.lst (acc.map .p))), some (.p (stP st)), x5, x6] =
      .nx [some (.p m.p), strE, rowE, some (.o (.lst ((acc ++ (runA m.lines m.words st row).map fun a => P.tup (txts a)).map .p))), some (.p (stP (runS m.lines m.words st row))), y5, y6]
  | [], st, acc, x5, x6, _, _ => ⟨x5, x6, by simp [forL, runS, runA]⟩
  | v :: row, st, acc, x5, x6, hst, hl => by
    obtain ⟨Γb, hb⟩ := behind_ok hm hst v
    obtain ⟨z5, z6, h'⟩ := fed_loop hm strE rowE row (rd1 m.lines m.words st v) (acc ++ [pyA m st v]) (some (.p (.str v))) (some (.p (pyA m st v))) (rd1_ok v hm.l hst).1 (by simp at hl ⊢; omega)
    refine ⟨z5, z6, ?_⟩
    let Γ0 : G := [some (.p m.p), strE, rowE, some (.o (.lst (acc.map .p))), some (.p (stP st)), some (.p (.str v)), x6]
    let Γ1 : G := [some (.p m.p), strE, rowE, some (.o (.lst (acc.map .p))), some (.p (stP (rd1 m.lines m.words st v))), some (.p (.str v)), some (.p (pyA m st v))]
    have h : fedB Γ0 = .nx [some (.p m.p), strE, rowE, some (.o (.lst ((acc ++ [pyA m st v]).map .p))), some (.p (stP (rd1 m.lines m.words st v))), some (.p (.str v)), some (.p (pyA m st v))] := by
      unfold fedB
      rw [seqS_nx (Γ1 := Γ1) (asgP (call_p (es := [.p m.p, .p (stP st), .p (.str v)]) rfl hb) rfl)]
      rw [app_ok (Γ := Γ1) (y := pyA m st v) (xs := acc) rfl (rd_p rfl) (by simp at hl; omega)]
      rfl
    rw [List.map_cons, forL_cons (Γ1 := Γ0) rfl h, h']
    simp [runS, runA, pyA]
theorem fed_ok {m : Mac} (hm : m.Ok) {st : St Str} (hst : StOk m.words m.boxes st) (pre : List (St Str)) (row : List Str) (hl : row.length ≤ 1000000) (hp : pre.length < 999998) : ∃ Γ, F_fed [.p m.p, .p (strP (pre ++ [st])), .p (.tup (txts row))] = .ok Γ (.p (.tup [ansP (runA m.lines m.words st row), strP (pre ++ [st] ++ [runS m.lines m.words st row])])) := by
  obtain ⟨y5, y6, h⟩ := fed_loop hm (some (.p (strP (pre ++ [st])))) (some (.p (.tup (txts row)))) row st [] none none hst (by simpa using hl)
  let Γ0 : G := [some (.p m.p), some (.p (strP (pre ++ [st]))), some (.p (.tup (txts row))), none, none, none, none]
  let Γ1 : G := [some (.p m.p), some (.p (strP (pre ++ [st]))), some (.p (.tup (txts row))), some (.o (.lst [])), some (.p (stP st)), none, none]
  refine ⟨_, fnE_p (Γ := [some (.p m.p), some (.p (strP (pre ++ [st]))), some (.p (.tup (txts row))), some (.o (.lst (((runA m.lines m.words st row).map fun a => P.tup (txts a)).map .p))), some (.p (stP (runS m.lines m.words st row))), y5, y6]) ?_⟩
  show b_fed Γ0 = _
  unfold b_fed
  rw [seqS_nx (Γ1 := Γ1) (par_ok (Γ1 := Γ0) (Γ2 := Γ0) (a := .o (.lst [])) (b := .p (stP st)) (own_o rfl) (own_p (call_p (con_ok (rd_p rfl) rfl) (present_ok pre st))))]
  have hit : sqI (rd 2) Γ1 = .ok Γ1 (.p (.tup (txts row)), row.map fun v => .p (.str v)) := by
    rw [sqI_tup (xs := txts row) (rd_p rfl)]; simp [txts, Function.comp_def]
  rw [seqS_nx (by rw [forS_eq hit]; exact h)]
  simp only [List.nil_append]
  refine retP (tup2 (f := e1 tupO (rd 3)) (tupO_b rfl) ?_)
  have hs : (pre ++ [st] ++ [runS m.lines m.words st row]).map stP = (pre ++ [st]).map stP ++ [stP (runS m.lines m.words st row)] := by rw [List.map_append]; rfl
  unfold strP
  rw [hs]
  exact tup_p (star_p (ys := [stP (runS m.lines m.words st row)]) (rd_p rfl) (con_ok (rd_p rfl) rfl)) (by simp; omega)
end Kv.W

set_option Elab.async false
set_option linter.all false
set_option maxRecDepth 100000
set_option maxHeartbeats 4000000
set_option autoImplicit false
/-! the plain law of k46: what compares, what is shown -/
namespace Kv.W
open PySem PySem.Spec L2 Kv M
variable [Tbl]
mutual
def P.fine : P → Bool
  | .str s => PyData.strOk s
  | .int i => decide (i.natAbs < 1000)
  | .tup xs => P.fines xs
  | _ => true
def P.fines : List P → Bool
  | [] => true
  | x :: xs => P.fine x && P.fines xs
end
mutual
def P.dp : P → Nat
  | .tup xs => P.dps xs + 1
  | _ => 0
def P.dps : List P → Nat
  | [] => 0
  | x :: xs => max (P.dp x) (P.dps xs)
end
mutual
def P.wt : P → Nat
  | .str s => s.cps.size
  | .int _ => 10
  | .tup xs => P.wts xs
  | _ => 0
def P.wts : List P → Nat
  | [] => 0
  | x :: xs => P.wt x + 1 + P.wts xs
end
mutual
theorem P.fine_can : ∀ x : P, P.fine x = true → x.py.canLay0 = true
  | .non, _ => rfl
  | .bl _, _ => rfl
  | .int _, _ => rfl
  | .str s, h => h
  | .tup xs, h => P.fine_cans xs h
theorem P.fine_cans : ∀ xs : List P, P.fines xs = true → PyData.canLayAll0 (P.pys xs) = true
  | [], _ => rfl
  | x :: xs, h => by
    simp only [P.fines, Bool.and_eq_true] at h
    simp only [P.pys, PyData.canLayAll0, Bool.and_eq_true]
    exact ⟨P.fine_can x h.1, P.fine_cans xs h.2⟩
end
mutual
theorem P.fine_shw : ∀ x : P, P.fine x = true → x.py.showable = true
  | .non, _ => rfl
  | .bl _, _ => rfl
  | .int i, h => by
    have h : i.natAbs < 1000 := of_decide_eq_true h
    have : i.natAbs.log2 < 1920 := by
      by_cases z : i.natAbs = 0
      · rw [z]; decide
      · exact (Nat.log2_lt z).mpr (Nat.lt_of_lt_of_le h (by decide +kernel))
    exact decide_eq_true this
  | .str s, h => rfl
  | .tup xs, h => P.fine_shws xs h
theorem P.fine_shws : ∀ xs : List P, P.fines xs = true → PyData.showableAll (P.pys xs) = true
  | [], _ => rfl
  | x :: xs, h => by
    simp only [P.fines, Bool.and_eq_true] at h
    simp only [P.pys, PyData.showableAll, Bool.and_eq_true]
    exact ⟨P.fine_shw x h.1, P.fine_shws xs h.2⟩
end
mutual
theorem P.fine_int : ∀ x : P, P.fine x = true → x.py.intsShort 13 = true
  | .non, _ => rfl
  | .bl _, _ => rfl
  | .int i, h => by
    have h : i.natAbs < 1000 := of_decide_eq_true h
    have h2 : i.natAbs < 10 ^ 12 := Nat.lt_of_lt_of_le h (by decide)
    exact decide_eq_true (PyData.shown_int_le h2)
  | .str s, h => rfl
  | .tup xs, h => P.fine_ints xs h
theorem P.fine_ints : ∀ xs : List P, P.fines xs = true → PyData.intsShortAll 13 (P.pys xs) = true
  | [], _ => rfl
  | x :: xs, h => by
    simp only [P.fines, Bool.and_eq_true] at h
    simp only [P.pys, PyData.intsShortAll, Bool.and_eq_true]
    exact ⟨P.fine_int x h.1, P.fine_ints xs h.2⟩
end
mutual
theorem P.dp_eq : ∀ x : P, x.py.depth = P.dp x
  | .non => rfl
  | .bl _ => rfl
  | .int _ => rfl
  | .str _ => rfl
  | .tup xs => by
    show PyData.depthAll (P.pys xs) + 1 = P.dps xs + 1
    rw [P.dps_eq xs]
theorem P.dps_eq : ∀ xs : List P, PyData.depthAll (P.pys xs) = P.dps xs
  | [] => rfl
  | x :: xs => by
    show max (PyData.depth x.py) (PyData.depthAll (P.pys xs)) = max (P.dp x) (P.dps xs)
    rw [P.dp_eq x, P.dps_eq xs]
end
mutual
theorem P.wt_le : ∀ x : P, P.fine x = true → x.py.weight ≤ P.wt x
  | .non, _ => Nat.le_refl _
  | .bl _, _ => Nat.le_refl _
  | .int i, h => by
    have h : i.natAbs < 1000 := of_decide_eq_true h
    show (if i == 0 then 0 else i.natAbs.log2 + 1) ≤ 10
    split
    · omega
    · rename_i z
      have z' : i.natAbs ≠ 0 := by
        intro e; apply z; simp; omega
      have : i.natAbs.log2 < 10 := (Nat.log2_lt z').mpr (Nat.lt_of_lt_of_le h (by decide))
      omega
  | .str s, _ => Nat.le_refl _
  | .tup xs, h => P.wts_le xs h
theorem P.wts_le : ∀ xs : List P, P.fines xs = true → PyData.weightAll (P.pys xs) ≤ P.wts xs
  | [], _ => Nat.le_refl _
  | x :: xs, h => by
    simp only [P.fines, Bool.and_eq_true] at h
    have h1 := P.wt_le x h.1
    have h2 := P.wts_le xs h.2
    show PyData.weight x.py + 1 + PyData.weightAll (P.pys xs) ≤ P.wt x + 1 + P.wts xs
    omega
end
mutual
theorem P.eqv_refl : ∀ x : P, PyData.eqv x.py x.py = true
  | .non => rfl
  | .bl b => by show (b == b) = true; simp
  | .int i => by show (i == i) = true; simp
  | .str s => by show (s == s) = true; simp
  | .tup xs => P.eqvs_refl xs
theorem P.eqvs_refl : ∀ xs : List P, PyData.eqvAll (P.pys xs) (P.pys xs) = true
  | [] => rfl
  | x :: xs => by
    show (PyData.eqv x.py x.py && PyData.eqvAll (P.pys xs) (P.pys xs)) = true
    rw [P.eqv_refl x, P.eqvs_refl xs]; rfl
end
theorem fine_shaped {x : P} (h : P.fine x = true) (hd : P.dp x ≤ 60) : SeqAt.shaped x.py = true := by
  unfold SeqAt.shaped
  rw [P.fine_can x h, P.dp_eq]
  simp; omega
theorem fines_shaped {xs : List P} (h : P.fines xs = true) (hd : P.dps xs ≤ 60) : SeqAt.shaped (.list (P.pys xs)) = true := by
  have h1 : PyData.canLay0 (.list (P.pys xs)) = true := P.fine_cans xs h
  have h2 : PyData.depth (.list (P.pys xs)) = P.dps xs + 1 := by
    show PyData.depthAll (P.pys xs) + 1 = _
    rw [P.dps_eq]
  unfold SeqAt.shaped
  rw [h1, h2]
  simp; omega
theorem rep_p {f : X1} {Γ Γ1 : G} {x : P} (hf : f Γ = .ok Γ1 (.p x)) (h : P.fine x = true) (hd : P.dp x ≤ 60) (hw : P.wt x ≤ 60000) : e1 repO f Γ = .ok Γ1 (.p (.str x.py.shown)) := by
  unfold e1
  rw [hf]
  simp only [Rs.bind_ok]
  show (if x.py.canLay0 = true ∧ x.py.showable = true ∧ x.py.depth ≤ 60 ∧ x.py.shown.length ≤ 1000000 then Rs.ok Γ1 (E.p (.str x.py.shown)) else .bad) = _
  have h1 := PyData.shown_le 13 (by decide) x.py (PyData.leavesShort_of_canLay0 13 _ (P.fine_can x h) (P.fine_int x h))
  have h2 := P.wt_le x h
  rw [if_pos ⟨P.fine_can x h, P.fine_shw x h, by rw [P.dp_eq]; exact hd, by omega⟩]
theorem rep_l {f : X1} {Γ Γ1 : G} {e : E} {xs : List P} (hf : f Γ = .ok Γ1 e) (he : val Γ1 e = some (.lst (xs.map .p))) (h : P.fines xs = true) (hd : P.dps xs ≤ 59) (hw : P.wts xs ≤ 60000) : e1 repO f Γ = .ok Γ1 (.p (.str (PyData.list (P.pys xs)).shown)) := by
  unfold e1
  rw [hf]
  simp only [Rs.bind_ok]
  unfold repO pyOf
  rw [he]
  show (match (D.pys (xs.map .p)).map PyData.list with | some d => if d.canLay0 = true ∧ d.showable = true ∧ d.depth ≤ 60 ∧ d.shown.length ≤ 1000000 then Rs.ok Γ1 (E.p (.str d.shown)) else .bad | none => .bad) = _
  rw [D.pys_map]
  have c1 : PyData.canLay0 (.list (P.pys xs)) = true := P.fine_cans xs h
  have c2 : PyData.showable (.list (P.pys xs)) = true := P.fine_shws xs h
  have c3 : PyData.intsShort 13 (.list (P.pys xs)) = true := P.fine_ints xs h
  have c4 : PyData.depth (.list (P.pys xs)) = P.dps xs + 1 := by
    show PyData.depthAll (P.pys xs) + 1 = _
    rw [P.dps_eq]
  have c5 : PyData.weight (.list (P.pys xs)) ≤ P.wts xs := P.wts_le xs h
  have h1 := PyData.shown_le 13 (by decide) _ (PyData.leavesShort_of_canLay0 13 _ c1 c3)
  exact if_pos ⟨c1, c2, by omega, by omega⟩
theorem eq_strs {f g : X1} {Γ Γ1 Γ2 : G} {a b : Str} (hf : f Γ = .ok Γ1 (.p (.str a))) (hg : g Γ1 = .ok Γ2 (.p (.str b))) : e2 eqE f g Γ = .ok Γ2 (.p (.bl (decide (a = b)))) := by
  unfold e2; simp only [hf, hg, Rs.bind_ok]; rfl
theorem ne_strs {f g : X1} {Γ Γ1 Γ2 : G} {a b : Str} (hf : f Γ = .ok Γ1 (.p (.str a))) (hg : g Γ1 = .ok Γ2 (.p (.str b))) : e2 neE f g Γ = .ok Γ2 (.p (.bl (!decide (a = b)))) := by
  unfold e2; simp only [hf, hg, Rs.bind_ok]; rfl
theorem eqOf_p {Γ : G} {x y : P} (h : strs2 (.p x) (.p y) = none) (hx : P.fine x = true) (hdx : P.dp x ≤ 60) (hy : P.fine y = true) (hdy : P.dp y ≤ 60) : eqOf Γ (.p x) (.p y) = some (PyData.eqv x.py y.py) := by
  unfold eqOf
  rw [h]
  show (if SeqAt.shaped x.py = true ∧ SeqAt.shaped y.py = true then some (PyData.eqv x.py y.py) else none) = _
  exact if_pos ⟨fine_shaped hx hdx, fine_shaped hy hdy⟩
theorem eq_tups {f g : X1} {Γ Γ1 Γ2 : G} {xs ys : List P} (hf : f Γ = .ok Γ1 (.p (.tup xs))) (hg : g Γ1 = .ok Γ2 (.p (.tup ys))) (hx : P.fines xs = true) (hdx : P.dps xs ≤ 59) (hy : P.fines ys = true) (hdy : P.dps ys ≤ 59) :
    e2 eqE f g Γ = .ok Γ2 (.p (.bl (PyData.eqvAll (P.pys xs) (P.pys ys)))) := by
  unfold e2; simp only [hf, hg, Rs.bind_ok]
  unfold eqE
  have : eqOf Γ2 (.p (.tup xs)) (.p (.tup ys)) = _ := eqOf_p rfl hx (by show P.dps xs + 1 ≤ 60; omega) hy (by show P.dps ys + 1 ≤ 60; omega)
  rw [this]; rfl
theorem ne_tups {f g : X1} {Γ Γ1 Γ2 : G} {xs ys : List P} (hf : f Γ = .ok Γ1 (.p (.tup xs))) (hg : g Γ1 = .ok Γ2 (.p (.tup ys))) (hx : P.fines xs = true) (hdx : P.dps xs ≤ 59) (hy : P.fines ys = true) (hdy : P.dps ys ≤ 59) :
    e2 neE f g Γ = .ok Γ2 (.p (.bl (!PyData.eqvAll (P.pys xs) (P.pys ys)))) := by
  unfold e2; simp only [hf, hg, Rs.bind_ok]
  unfold neE
  have : eqOf Γ2 (.p (.tup xs)) (.p (.tup ys)) = _ := eqOf_p rfl hx (by show P.dps xs + 1 ≤ 60; omega) hy (by show P.dps ys + 1 ≤ 60; omega)
  rw [this]; rfl
theorem eqOf_l {Γ : G} {a b : E} {xs ys : List P} (ha : val Γ a = some (.lst (xs.map .p))) (hb : val Γ b = some (.lst (ys.map .p))) (hx : P.fines xs = true) (hdx : P.dps xs ≤ 60) (hy : P.fines ys = true) (hdy : P.dps ys ≤ 60) : eqOf Γ a b = some (PyData.eqvAll (P.pys xs) (P.pys ys)) := by
  have h0 : strs2 a b = none := by
    unfold strs2
    split
    · rename_i x y
      have e : val Γ (.p (.str x)) = some (.p (.str x)) := rfl
      rw [e] at ha
      cases ha
    · rfl
  unfold eqOf
  rw [h0]
  unfold pyOf
  rw [ha, hb]
  show (match (D.pys (xs.map .p)).map PyData.list, (D.pys (ys.map .p)).map PyData.list with | some x, some y => if SeqAt.shaped x = true ∧ SeqAt.shaped y = true then some (PyData.eqv x y) else none | _, _ => none) = _
  rw [D.pys_map, D.pys_map]
  exact if_pos ⟨fines_shaped hx hdx, fines_shaped hy hdy⟩
theorem eq_lsts {f g : X1} {Γ Γ1 Γ2 : G} {a b : E} {xs ys : List P} (hf : f Γ = .ok Γ1 a) (hg : g Γ1 = .ok Γ2 b) (ha : val Γ2 a = some (.lst (xs.map .p))) (hb : val Γ2 b = some (.lst (ys.map .p))) (hx : P.fines xs = true) (hdx : P.dps xs ≤ 60) (hy : P.fines ys = true) (hdy : P.dps ys ≤ 60) :
    e2 eqE f g Γ = .ok Γ2 (.p (.bl (PyData.eqvAll (P.pys xs) (P.pys ys)))) := by
  unfold e2; simp only [hf, hg, Rs.bind_ok]
  unfold eqE
  rw [eqOf_l ha hb hx hdx hy hdy]
theorem ne_lsts {f g : X1} {Γ Γ1 Γ2 : G} {a b : E} {xs ys : List P} (hf : f Γ = .ok Γ1 a) (hg : g Γ1 = .ok Γ2 b) (ha : val Γ2 a = some (.lst (xs.map .p))) (hb : val Γ2 b = some (.lst (ys.map .p))) (hx : P.fines xs = true) (hdx : P.dps xs ≤ 60) (hy : P.fines ys = true) (hdy : P.dps ys ≤ 60) :
    e2 neE f g Γ = .ok Γ2 (.p (.bl (!PyData.eqvAll (P.pys xs) (P.pys ys)))) := by
  unfold e2; simp only [hf, hg, Rs.bind_ok]
  unfold neE
  rw [eqOf_l ha hb hx hdx hy hdy]
/-! ### lists of like things -/
theorem fines_iff : ∀ {xs : List P}, P.fines xs = true ↔ ∀ x ∈ xs, P.fine x = true
  | [] => by simp [P.fines]
  | x :: xs => by
    simp only [P.fines, Bool.and_eq_true, fines_iff (xs := xs), List.mem_cons]
    constructor
    · rintro ⟨a, b⟩ y (rfl | h)
      · exact a
      · exact b y h
    · exact fun h => ⟨h x (.inl rfl), fun y hy => h y (.inr hy)⟩
theorem dps_le {k : Nat} : ∀ {xs : List P}, (∀ x ∈ xs, P.dp x ≤ k) → P.dps xs ≤ k
  | [], _ => Nat.zero_le _
  | x :: xs, h => by
    have h1 := h x List.mem_cons_self
    have h2 := dps_le (k := k) (xs := xs) fun y hy => h y (List.mem_cons_of_mem _ hy)
    show max _ _ ≤ k
    omega
theorem wts_le {k : Nat} : ∀ {xs : List P}, (∀ x ∈ xs, P.wt x ≤ k) → P.wts xs ≤ xs.length * (k + 1)
  | [], _ => Nat.zero_le _
  | x :: xs, h => by
    have h1 := h x List.mem_cons_self
    have h2 := wts_le (k := k) (xs := xs) fun y hy => h y (List.mem_cons_of_mem _ hy)
    show P.wt x + 1 + P.wts xs ≤ (xs.length + 1) * (k + 1)
    rw [Nat.add_mul]; omega
theorem nats_fine {l : List Nat} (h : ∀ n ∈ l, n < 1000) : P.fines (nats l) = true := by
  rw [fines_iff]
  intro x hx
  obtain ⟨n, hn, rfl⟩ := List.mem_map.mp hx
  have := h n hn
  exact decide_eq_true (by omega)
theorem nats_dps (l : List Nat) : P.dps (nats l) ≤ 0 := dps_le fun x hx => by
  obtain ⟨n, hn, rfl⟩ := List.mem_map.mp hx
  exact Nat.le_refl _
theorem nats_wts (l : List Nat) : P.wts (nats l) ≤ l.length * 11 := by
  have := wts_le (k := 10) (xs := nats l) fun x hx => by
    obtain ⟨n, hn, rfl⟩ := List.mem_map.mp hx
    exact Nat.le_refl _
  simpa [nats_len] using this
/-- texts that are short and right -/
def Fit (s : Str) : Prop := PyData.strOk s = true ∧ s.cps.size ≤ 30
theorem txts_fine {l : List Str} (h : ∀ n ∈ l, Fit n) : P.fines (txts l) = true := by
  rw [fines_iff]
  intro x hx
  obtain ⟨n, hn, rfl⟩ := List.mem_map.mp hx
  exact (h n hn).1
theorem txts_dps (l : List Str) : P.dps (txts l) ≤ 0 := dps_le fun x hx => by
  obtain ⟨n, hn, rfl⟩ := List.mem_map.mp hx
  exact Nat.le_refl _
theorem txts_wts {l : List Str} (h : ∀ n ∈ l, Fit n) : P.wts (txts l) ≤ l.length * 31 := by
  have := wts_le (k := 30) (xs := txts l) fun x hx => by
    obtain ⟨n, hn, rfl⟩ := List.mem_map.mp hx
    exact (h n hn).2
  simpa [txts_len] using this
end Kv.W

set_option Elab.async false
set_option linter.all false
set_option maxRecDepth 100000
set_option maxHeartbeats 4000000
set_option autoImplicit false
/-! the plain law of k46: ways to modes -/
namespace Kv.W
open PySem PySem.Spec L2 Kv M
variable [Tbl]
/-- ways, as a dict -/
def encD (enc : List Nat → P) (f : Ways) : List (Key × D) := f.map fun q => (Sum.inl (q.1 : Int), D.p (enc q.2))
theorem inl_ne {a b : Nat} (h : a ≠ b) : ¬ (Sum.inl (a : Int) : Key) = .inl (b : Int) := fun e => by
  have : (a : Int) = b := Sum.inl.inj e
  omega
theorem encD_get (enc : List Nat → P) : ∀ (f : Ways) (k : Nat), dget (encD enc f) (.inl (k : Int)) = if k ∈ keys f then some (.p (enc (way f k))) else none
  | [], k => rfl
  | q :: f, k => by
    have ih := encD_get enc f k
    unfold dget encD at ih ⊢
    rw [List.map_cons, List.find?_cons]
    by_cases h : q.1 = k
    · subst h
      have : way (q :: f) q.1 = q.2 := by unfold way; rw [List.find?_cons]; simp
      simp [keys, this]
    · have h2 : (decide ((Sum.inl (q.1 : Int), D.p (enc q.2)).1 = Sum.inl (k : Int))) = false := decide_eq_false (inl_ne h)
      rw [h2]
      have h3 : way (q :: f) k = way f k := by unfold way; rw [List.find?_cons]; simp [h]
      have h4 : (k ∈ keys (q :: f)) ↔ k ∈ keys f := by
        unfold keys
        rw [List.map_cons, List.mem_cons]
        exact ⟨fun z => z.resolve_left fun e => h e.symm, .inr⟩
      rw [h3]
      simp only [h4]
      exact ih
theorem encD_put (enc : List Nat → P) {f : Ways} {k : Nat} (h : k ∉ keys f) (w : List Nat) : dput (encD enc f) (.inl (k : Int)) (.p (enc w)) = encD enc (f ++ [(k, w)]) := by
  unfold dput
  have h1 : ((encD enc f).any fun kv => decide (kv.1 = Sum.inl (k : Int))) = false := by
    rw [List.any_eq_false]
    intro kv hkv
    obtain ⟨q, hq, rfl⟩ := List.mem_map.mp hkv
    have : ¬ q.1 = k := fun e => h (List.mem_map.mpr ⟨q, hq, e⟩)
    simpa using inl_ne this
  rw [h1]
  simp [encD]
theorem encD_len (enc : List Nat → P) (f : Ways) : (encD enc f).length = f.length := by simp [encD]
abbrev dctE (enc : List Nat → P) (f : Ways) : Option E := some (.o (.dct (encD enc f)))
abbrev linE (l : List Nat) : Option E := some (.o (.lst ((nats l).map .p)))
abbrev intE (n : Nat) : Option E := some (.p (.int (n : Int)))
theorem dni_ok {enc : List Nat → P} {f g : X1} {Γ Γ1 Γ2 : G} {e : E} {k : Nat} {w : Ways} (hf : f Γ = .ok Γ1 (.p (.int (k : Int)))) (hg : g Γ1 = .ok Γ2 e) (he : val Γ2 e = some (.dct (encD enc w))) : e2 dniE f g Γ = .ok Γ2 (.p (.bl (decide (k ∉ keys w)))) := by
  unfold e2; simp only [hf, hg, Rs.bind_ok]
  unfold dniE dinOf
  rw [he]
  show (match some (dget (encD enc w) (.inl (k : Int))).isSome with | some c => Rs.ok Γ2 (E.p (.bl (!c))) | none => .bad) = _
  rw [encD_get]
  by_cases h : k ∈ keys w
  · simp [h]
  · simp [h]
theorem dget_ok {enc : List Nat → P} {f g : X1} {Γ Γ1 Γ2 : G} {e : E} {k : Nat} {w : Ways} (hg : f Γ = .ok Γ1 e) (hf : g Γ1 = .ok Γ2 (.p (.int (k : Int)))) (he : val Γ2 e = some (.dct (encD enc w))) (hk : k ∈ keys w) : e2 dgetE f g Γ = .ok Γ2 (.p (enc (way w k))) := by
  unfold e2; simp only [hf, hg, Rs.bind_ok]
  unfold dgetE
  rw [he]
  show (match dget (encD enc w) (.inl (k : Int)) with | some (.p x) => Rs.ok Γ2 (E.p x) | _ => .bad) = _
  rw [encD_get, if_pos hk]
theorem dput_ok {enc : List Nat → P} {f g : X1} {Γ : G} {i : Nat} {k : Nat} {w : Ways} {p : List Nat} (hf : f Γ = .ok Γ (.p (enc p))) (hi : Γ[i]? = some (dctE enc w)) (hg : g Γ = .ok Γ (.p (.int (k : Int)))) (hk : k ∉ keys w) (hl : w.length < 1000000) : dputS f (rd i) g Γ = .nx (Γ.set i (dctE enc (w ++ [(k, p)]))) := by
  unfold dputS
  rw [own_p hf]
  simp only [Rs.out, rd_o hi, hg]
  show (match Γ[i]?, keyP (.int (k : Int)) with | some (some (.o (.dct kvs))), some k => if kvs.length < 1000000 ∧ (isP (D.p (enc p)) = true ∨ (dget kvs k).isNone = true) then Out.nx (Γ.set i (some (.o (.dct (dput kvs k (.p (enc p))))))) else .bad | _, _ => .bad) = _
  rw [hi]
  show (if (encD enc w).length < 1000000 ∧ (isP (D.p (enc p)) = true ∨ (dget (encD enc w) (.inl (k : Int))).isNone = true) then Out.nx (Γ.set i (some (.o (.dct (dput (encD enc w) (.inl (k : Int)) (.p (enc p))))))) else .bad) = _
  rw [if_pos ⟨by rw [encD_len]; exact hl, .inl rfl⟩, encD_put enc hk]
theorem nats_snoc (l : List Nat) (n : Nat) : nats (l ++ [n]) = nats l ++ [.int (n : Int)] := by simp [nats]
theorem nats_cons (n : Nat) (l : List Nat) : nats (n :: l) = .int (n : Int) :: nats l := rfl
theorem add_ok {f g : X1} {Γ Γ1 Γ2 : G} {a b : Int} (hf : f Γ = .ok Γ1 (.p (.int a))) (hg : g Γ1 = .ok Γ2 (.p (.int b))) : e2 addI f g Γ = .ok Γ2 (.p (.int (a + b))) := by
  unfold e2; simp only [hf, hg, Rs.bind_ok]; rfl
/-- whether a line is left -/
theorem line_ok {Γ : G} {i : Nat} {l : List Nat} (hi : Γ[i]? = some (linE l)) (hs : ∀ n ∈ l, n < 1000) : tst (e2 neE (rd i) (lstE nilA)) Γ = .ok Γ (decide (l ≠ [])) := by
  refine tst_ok ?_
  rw [ne_lsts (xs := nats l) (ys := []) (rd_o hi) rfl (val_b hi) rfl (nats_fine hs) (by have := nats_dps l; omega) rfl (by decide)]
  cases l with
  | nil => rfl
  | cons n l => simp [nats, P.pys, PyData.eqvAll]
theorem pop0_ok {Γ : G} {i : Nat} {n : Nat} {l : List Nat} (hi : Γ[i]? = some (linE (n :: l))) : e2r isL popA (rd i) (cE (.int 0)) Γ = .ok (Γ.set i (linE l)) (.p (.int (n : Int))) := by
  have h1 : isL Γ (.b i) = true := by unfold isL; rw [val_b hi]
  unfold e2r
  rw [rd_o hi]
  simp only [Rs.bind_ok]
  rw [if_pos h1]
  show popA Γ (.b i) (.p (.int 0)) = _
  unfold popA
  simp only [hi]
  rfl
section
variable {m : Mac} (hm : m.Ok)
/-! #### the program's -/
def encW (w : List Nat) : P := .tup (nats w)
abbrev wayB : X3 := ifS (tst (e2 dniE (rd 6) (rd 1))) (seqS (dputS (tupE (starA (e2 dgetE (rd 1) (rd 3)) (conA (rd 4) nilA))) (rd 1) (rd 6))
    (dropS (e2r isL appO (rd 2) (own (rd 6))))) skipS
theorem pairs_map (r : List Ent) (s : Nat) : pairs (r.map entP) s = match r with
    | [] => []
    | e :: r => .p (.tup [.int (s : Nat), entP e]) :: pairs (r.map entP) (s + 1) := by
  cases r <;> rfl
theorem way_scan (M : Option E) (md : Nat) : ∀ (r : List Ent) (s : Nat) (f : Ways) (l : List Nat) (x4 x5 x6 x7 : Option E), md ∈ keys f → f.length + r.length < 1000 → l.length + r.length < 1000 → (∀ q ∈ f, q.2.length < f.length) → ∃ y4 y5 y6 y7 : Option E,
    forL (tupT 2 (conT (nmT 4) (conT (tupT 3 (conT (nmT 5) (conT (nmT 6) (conT (nmT 7) nilT)))) nilT))) wayB (pairs (r.map entP) s) [M, dctE encW f, linE l, intE md, x4, x5, x6, x7] =
      .nx [M, dctE encW (scan (way f md) r s f l).1, linE (scan (way f md) r s f l).2, intE md, y4, y5, y6, y7]
  | [], s, f, l, x4, x5, x6, x7, _, _, _, _ => ⟨x4, x5, x6, x7, by simp [pairs, forL, scan]⟩
  | e :: r, s, f, l, x4, x5, x6, x7, hmd, hf, hl, hw => by
    simp only [List.length_cons] at hf hl
    rw [pairs_map]
    let Γ1 : G := [M, dctE encW f, linE l, intE md, intE s, some (.p (.tup (nats e.ans))), intE e.to, some (.p (.tup (nats e.fills)))]
    have hc : tst (e2 dniE (rd 6) (rd 1)) Γ1 = .ok Γ1 (decide (e.to ∉ keys f)) := tst_ok (dni_ok (enc := encW) (rd_p rfl) (rd_o rfl) (val_b rfl))
    have ht : (tupT 2 (conT (nmT 4) (conT (tupT 3 (conT (nmT 5) (conT (nmT 6) (conT (nmT 7) nilT)))) nilT))) [M, dctE encW f, linE l, intE md, x4, x5, x6, x7] (.p (.tup [.int (s : Nat), entP e])) = some Γ1 := rfl
    unfold scan
    by_cases h : e.to ∈ keys f
    · rw [if_pos h]
      rw [decide_eq_false (fun z => z h)] at hc
      obtain ⟨y4, y5, y6, y7, ih⟩ := way_scan M md r (s + 1) f l (intE s) (some (.p (.tup (nats e.ans)))) (intE e.to) (some (.p (.tup (nats e.fills)))) hmd (by omega) (by omega) hw
      refine ⟨y4, y5, y6, y7, ?_⟩
      rw [forL_cons ht (Γ2 := Γ1) (by unfold wayB; rw [ifS_f hc]; rfl)]
      exact ih
    · rw [if_neg h]
      rw [decide_eq_true h] at hc
      have hmd' : md ∈ keys (f ++ [(e.to, way f md ++ [s])]) := by rw [keys_app]; exact List.mem_append_left _ hmd
      have hwm : (way f md).length < f.length := hw _ (way_mem hmd)
      have hw' : ∀ q ∈ f ++ [(e.to, way f md ++ [s])], q.2.length < (f ++ [(e.to, way f md ++ [s])]).length := fun q hq => by
        rw [List.length_append]
        rcases List.mem_append.mp hq with h | h
        · have := hw q h
          exact Nat.lt_add_right _ this
        · have : q = (e.to, way f md ++ [s]) := by simpa using h
          rw [this]; simp; exact hwm
      obtain ⟨y4, y5, y6, y7, ih⟩ := way_scan M md r (s + 1) (f ++ [(e.to, way f md ++ [s])]) (l ++ [e.to]) (intE s) (some (.p (.tup (nats e.ans)))) (intE e.to) (some (.p (.tup (nats e.fills)))) hmd' (by rw [List.length_append, List.length_singleton]; omega) (by rw [List.length_append, List.length_singleton]; omega) hw'
      rw [way_app hmd] at ih
      refine ⟨y4, y5, y6, y7, ?_⟩
      let Γ2 : G := [M, dctE encW (f ++ [(e.to, way f md ++ [s])]), linE l, intE md, intE s, some (.p (.tup (nats e.ans))), intE e.to, some (.p (.tup (nats e.fills)))]
      let Γ3 : G := [M, dctE encW (f ++ [(e.to, way f md ++ [s])]), linE (l ++ [e.to]), intE md, intE s, some (.p (.tup (nats e.ans))), intE e.to, some (.p (.tup (nats e.fills)))]
      have hb : wayB Γ1 = .nx Γ3 := by
        unfold wayB
        rw [ifS_t hc]
        have hd : e2 dgetE (rd 1) (rd 3) Γ1 = .ok Γ1 (.p (.tup (nats (way f md)))) := dget_ok (enc := encW) (rd_o rfl) (rd_p rfl) (val_b rfl) hmd
        have hv : tupE (starA (e2 dgetE (rd 1) (rd 3)) (conA (rd 4) nilA)) Γ1 = .ok Γ1 (.p (encW (way f md ++ [s]))) := by
          unfold encW
          rw [nats_snoc]
          exact tup_p (star_p (ys := [.int (s : Int)]) hd (con_ok (rd_p rfl) rfl)) (by rw [List.length_append, nats_len, List.length_singleton]; omega)
        rw [seqS_nx (Γ1 := Γ2) (by rw [dput_ok (w := f) hv rfl (rd_p rfl) h (by omega)]; rfl)]
        rw [app_ok (Γ := Γ2) (xs := nats l) (y := .int (e.to : Int)) rfl (rd_p rfl) (by rw [nats_len]; omega), ← nats_snoc]
        rfl
      rw [forL_cons ht hb]
      exact ih
abbrev wayL : X3 := seqS (asgS (nmT 3) (e2r isL popA (rd 2) (cE (.int 0))))
    (forS (enI (e2 ixD (e2 ixD (rd 0) (cE (.int 3))) (rd 3))) (tupT 2 (conT (nmT 4) (conT (tupT 3 (conT (nmT 5) (conT (nmT 6) (conT (nmT 7) nilT)))) nilT))) wayB)
theorem wints {c : Nat} {B : List Nat} {L : Lines} {f : Ways} (h : WInv c B L f) (hB : B.length ≤ 4) {l : List Nat} (hl : ∀ k ∈ l, k ∈ keys f) : ∀ n ∈ l, n < 1000 := fun n hn => by
  have := h.lt n (hl n hn); omega
/-- one turn: the queue's length falls by one, but for modes newly found -/
theorem scan_next {m : Mac} (hm : m.Ok) {f : Ways} {md : Nat} {l : List Nat} (hf : WInv m.words.length m.boxes m.lines f) (hk : ∀ k ∈ md :: l, k ∈ keys f) : ∃ ll, m.lines[md]? = some ll ∧ m.lines.getD md [] = ll ∧ ll.length ≤ 5 ∧ WInv m.words.length m.boxes m.lines (scan (way f md) ll 0 f l).1 ∧
    (∀ k ∈ (scan (way f md) ll 0 f l).2, k ∈ keys (scan (way f md) ll 0 f l).1) ∧ (m.boxes.length - (scan (way f md) ll 0 f l).1.length) + (scan (way f md) ll 0 f l).2.length = (m.boxes.length - f.length) + l.length ∧ (l.length ≤ f.length → (scan (way f md) ll 0 f l).2.length ≤ (scan (way f md) ll 0 f l).1.length) := by
  have hmd := hk md List.mem_cons_self
  have hlt := hf.lt md hmd
  have hB : m.boxes[md]? = some m.boxes[md] := List.getElem?_eq_getElem hlt
  have hl' : md < m.lines.length := by rw [hm.l.ll]; exact hlt
  have hLm : m.lines[md]? = some m.lines[md] := List.getElem?_eq_getElem hl'
  obtain ⟨a1, a2, g, a3, a4⟩ := scan_ok hm.l (hf.pt _ (way_mem hmd)) hB hLm m.lines[md] 0 f l (by simp) hf (hf.ln _ (way_mem hmd)) fun k h => hk k (List.mem_cons_of_mem _ h)
  refine ⟨m.lines[md], hLm, by rw [List.getD_eq_getElem?_getD, hLm, Option.getD_some], ?_, a1, a2, ?_, ?_⟩
  · have := hm.l.len md _ _ hLm hB
    have h2 := hm.bl _ (List.mem_of_getElem? hB)
    have h3 := hm.wl
    omega
  · have h1 := a1.len
    have h2 := hf.len
    rw [a3, a4] at *
    simp only [List.length_append, keys, List.length_map] at *
    omega
  · intro h
    rw [a3, a4]
    simp only [List.length_append, keys, List.length_map]
    omega
theorem way_while {m : Mac} (hm : m.Ok) : ∀ (n : Nat) (f : Ways) (l : List Nat) (x3 x4 x5 x6 x7 : Option E), WInv m.words.length m.boxes m.lines f → (∀ k ∈ l, k ∈ keys f) → (m.boxes.length - f.length) + l.length ≤ n → l.length ≤ f.length → ∃ y3 y4 y5 y6 y7 : Option E,
    whileN (tst (e2 neE (rd 2) (lstE nilA))) wayL (n + 1) [some (.p m.p), dctE encW f, linE l, x3, x4, x5, x6, x7] = .nx [some (.p m.p), dctE encW (bfs m.lines n f l), linE [], y3, y4, y5, y6, y7]
  | n, f, [], x3, x4, x5, x6, x7, hf, hk, _, _ => by
    refine ⟨x3, x4, x5, x6, x7, ?_⟩
    have hc := line_ok (Γ := [some (.p m.p), dctE encW f, linE [], x3, x4, x5, x6, x7]) (i := 2) (l := []) rfl (fun n h => by cases h)
    have hb : bfs m.lines n f [] = f := by cases n <;> rfl
    rw [hb]
    unfold whileN
    rw [hc]
    rfl
  | 0, f, md :: l, _, _, _, _, _, _, _, h, _ => by simp at h
  | n + 1, f, md :: l, x3, x4, x5, x6, x7, hf, hk, h, hlf => by
    obtain ⟨ll, e1', e2', e3', e4', e5', e6', e7'⟩ := scan_next hm hf hk
    have hlen := hf.len
    have hmany := hm.many
    simp only [List.length_cons] at h hlf
    have hz : ∃ z4 z5 z6 z7 : Option E, wayL [some (.p m.p), dctE encW f, linE (md :: l), x3, x4, x5, x6, x7] = .nx [some (.p m.p), dctE encW (scan (way f md) ll 0 f l).1, linE (scan (way f md) ll 0 f l).2, intE md, z4, z5, z6, z7] := by
      obtain ⟨y4, y5, y6, y7, hs⟩ := way_scan (some (.p m.p)) md ll 0 f l x4 x5 x6 x7 (hk md List.mem_cons_self) (by omega) (by omega) hf.ln
      refine ⟨y4, y5, y6, y7, ?_⟩
      let Γ1 : G := [some (.p m.p), dctE encW f, linE l, intE md, x4, x5, x6, x7]
      unfold wayL
      rw [seqS_nx (Γ1 := Γ1) (asgP (pop0_ok rfl) rfl)]
      have hit : enI (e2 ixD (e2 ixD (rd 0) (cE (.int 3))) (rd 3)) Γ1 = .ok Γ1 (.p (linP ll), pairs (ll.map entP) 0) := by
        unfold enI
        rw [ix_ok (i := md) (xs := m.lines.map linP) (x := linP ll) rfl rfl (lin_get e1')]
        rfl
      rw [forS_eq hit]
      exact hs
    obtain ⟨z4, z5, z6, z7, hz⟩ := hz
    obtain ⟨y3, y4, y5, y6, y7, ih⟩ := way_while hm n _ _ (intE md) z4 z5 z6 z7 e4' e5' (by omega) (e7' (by omega))
    refine ⟨y3, y4, y5, y6, y7, ?_⟩
    have hc := line_ok (Γ := [some (.p m.p), dctE encW f, linE (md :: l), x3, x4, x5, x6, x7]) (i := 2) (l := md :: l) rfl (wints hf hmany hk)
    rw [decide_eq_true (List.cons_ne_nil _ _)] at hc
    unfold whileN
    rw [hc]
    simp only [Rs.out, if_true, hz]
    have hbf : bfs m.lines (n + 1) f (md :: l) = bfs m.lines n (scan (way f md) ll 0 f l).1 (scan (way f md) ll 0 f l).2 := by rw [← e2']; rfl
    rw [ih, hbf]
abbrev waysM (m : Mac) : Ways := ways m.lines m.boxes.length
theorem waysM_ok {m : Mac} (hm : m.Ok) : WInv m.words.length m.boxes m.lines (waysM m) := ways_ok hm.l _
theorem while_eq {t : XB} {b : X3} {n : Nat} {Γ Γ' : G} (h : whileN t b n Γ = .nx Γ') : whileS t b Γ = .nx Γ' := (whileS_eq (by rw [h]; exact fun z => by cases z)).trans h
/-- _the program's ways -/
theorem ways_p {m : Mac} (hm : m.Ok) : ∃ Γ, F_ways_to_modes [.p m.p] = .ok Γ (.o (.dct (encD encW (waysM m)))) := by
  obtain ⟨y3, y4, y5, y6, y7, h⟩ := way_while hm (m.boxes.length + 1) [(0, [])] [0] none none none none none (w0_ok hm.l) (fun k hk => by simpa [keys] using hk) (by simp) (by simp)
  refine ⟨[some (.p m.p), none, linE [], y3, y4, y5, y6, y7], fnE_o ?_⟩
  show b_ways_to_modes [some (.p m.p), none, none, none, none, none, none, none] = _
  unfold b_ways_to_modes
  rw [seqS_nx (Γ1 := [some (.p m.p), dctE encW [(0, [])], linE [0], none, none, none, none, none]) (par_ok (Γ1 := [some (.p m.p), none, none, none, none, none, none, none]) (Γ2 := [some (.p m.p), none, none, none, none, none, none, none]) (a := .o (.dct (encD encW [(0, [])]))) (b := .o (.lst ((nats [0]).map .p))) (own_o rfl) (own_o rfl))]
  rw [seqS_nx (while_eq h)]
  rfl
/-! #### the law's -/
def encN (w : List Nat) : P := .int (w.length : Int)
abbrev depB : X3 := ifS (tst (e2 dniE (rd 5) (rd 1))) (seqS (dputS (e2 addI (e2 dgetE (rd 1) (rd 3)) (cE (.int 1))) (rd 1) (rd 5))
    (dropS (e2r isL appO (rd 2) (own (rd 5))))) skipS
theorem dep_scan (M : Option E) (md : Nat) : ∀ (r : List Ent) (s : Nat) (f : Ways) (l : List Nat) (x4 x5 x6 : Option E), md ∈ keys f → f.length + r.length < 1000 → l.length + r.length < 1000 → ∃ y4 y5 y6 : Option E,
    forL (tupT 3 (conT (nmT 4) (conT (nmT 5) (conT (nmT 6) nilT)))) depB ((r.map entP).map .p) [M, dctE encN f, linE l, intE md, x4, x5, x6] =
      .nx [M, dctE encN (scan (way f md) r s f l).1, linE (scan (way f md) r s f l).2, intE md, y4, y5, y6]
  | [], s, f, l, x4, x5, x6, _, _, _ => ⟨x4, x5, x6, by simp [forL, scan]⟩
  | e :: r, s, f, l, x4, x5, x6, hmd, hf, hl => by
    simp only [List.length_cons] at hf hl
    rw [List.map_cons, List.map_cons]
    let Γ1 : G := [M, dctE encN f, linE l, intE md, some (.p (.tup (nats e.ans))), intE e.to, some (.p (.tup (nats e.fills)))]
    have hc : tst (e2 dniE (rd 5) (rd 1)) Γ1 = .ok Γ1 (decide (e.to ∉ keys f)) := tst_ok (dni_ok (enc := encN) (rd_p rfl) (rd_o rfl) (val_b rfl))
    have ht : (tupT 3 (conT (nmT 4) (conT (nmT 5) (conT (nmT 6) nilT)))) [M, dctE encN f, linE l, intE md, x4, x5, x6] (.p (entP e)) = some Γ1 := rfl
    unfold scan
    by_cases h : e.to ∈ keys f
    · rw [if_pos h]
      rw [decide_eq_false (fun z => z h)] at hc
      obtain ⟨y4, y5, y6, ih⟩ := dep_scan M md r (s + 1) f l (some (.p (.tup (nats e.ans)))) (intE e.to) (some (.p (.tup (nats e.fills)))) hmd (by omega) (by omega)
      refine ⟨y4, y5, y6, ?_⟩
      rw [forL_cons ht (Γ2 := Γ1) (by unfold depB; rw [ifS_f hc]; rfl)]
      exact ih
    · rw [if_neg h]
      rw [decide_eq_true h] at hc
      have hmd' : md ∈ keys (f ++ [(e.to, way f md ++ [s])]) := by rw [keys_app]; exact List.mem_append_left _ hmd
      obtain ⟨y4, y5, y6, ih⟩ := dep_scan M md r (s + 1) (f ++ [(e.to, way f md ++ [s])]) (l ++ [e.to]) (some (.p (.tup (nats e.ans)))) (intE e.to) (some (.p (.tup (nats e.fills)))) hmd' (by rw [List.length_append, List.length_singleton]; omega) (by rw [List.length_append, List.length_singleton]; omega)
      rw [way_app hmd] at ih
      refine ⟨y4, y5, y6, ?_⟩
      let Γ2 : G := [M, dctE encN (f ++ [(e.to, way f md ++ [s])]), linE l, intE md, some (.p (.tup (nats e.ans))), intE e.to, some (.p (.tup (nats e.fills)))]
      let Γ3 : G := [M, dctE encN (f ++ [(e.to, way f md ++ [s])]), linE (l ++ [e.to]), intE md, some (.p (.tup (nats e.ans))), intE e.to, some (.p (.tup (nats e.fills)))]
      have hb : depB Γ1 = .nx Γ3 := by
        unfold depB
        rw [ifS_t hc]
        have hd : e2 dgetE (rd 1) (rd 3) Γ1 = .ok Γ1 (.p (.int ((way f md).length : Int))) := dget_ok (enc := encN) (rd_o rfl) (rd_p rfl) (val_b rfl) hmd
        have hv : e2 addI (e2 dgetE (rd 1) (rd 3)) (cE (.int 1)) Γ1 = .ok Γ1 (.p (encN (way f md ++ [s]))) := by
          have : encN (way f md ++ [s]) = .int ((way f md).length + 1) := by unfold encN; simp
          rw [this]
          exact add_ok hd rfl
        rw [seqS_nx (Γ1 := Γ2) (by rw [dput_ok (w := f) hv rfl (rd_p rfl) h (by omega)]; rfl)]
        rw [app_ok (Γ := Γ2) (xs := nats l) (y := .int (e.to : Int)) rfl (rd_p rfl) (by rw [nats_len]; omega), ← nats_snoc]
        rfl
      rw [forL_cons ht hb]
      exact ih
abbrev depL : X3 := seqS (asgS (nmT 3) (e2r isL popA (rd 2) (cE (.int 0))))
    (forS (sqI (e2 ixD (e2 ixD (rd 0) (cE (.int 3))) (rd 3))) (tupT 3 (conT (nmT 4) (conT (nmT 5) (conT (nmT 6) nilT)))) depB)
theorem dep_while {m : Mac} (hm : m.Ok) : ∀ (n : Nat) (f : Ways) (l : List Nat) (x3 x4 x5 x6 : Option E), WInv m.words.length m.boxes m.lines f → (∀ k ∈ l, k ∈ keys f) → (m.boxes.length - f.length) + l.length ≤ n → l.length ≤ f.length → ∃ y3 y4 y5 y6 : Option E,
    whileN (tst (e2 neE (rd 2) (lstE nilA))) depL (n + 1) [some (.p m.p), dctE encN f, linE l, x3, x4, x5, x6] = .nx [some (.p m.p), dctE encN (bfs m.lines n f l), linE [], y3, y4, y5, y6]
  | n, f, [], x3, x4, x5, x6, hf, hk, _, _ => by
    refine ⟨x3, x4, x5, x6, ?_⟩
    have hc := line_ok (Γ := [some (.p m.p), dctE encN f, linE [], x3, x4, x5, x6]) (i := 2) (l := []) rfl (fun n h => by cases h)
    have hb : bfs m.lines n f [] = f := by cases n <;> rfl
    rw [hb]
    unfold whileN
    rw [hc]
    rfl
  | 0, f, md :: l, _, _, _, _, _, _, h, _ => by simp at h
  | n + 1, f, md :: l, x3, x4, x5, x6, hf, hk, h, hlf => by
    obtain ⟨ll, e1', e2', e3', e4', e5', e6', e7'⟩ := scan_next hm hf hk
    have hlen := hf.len
    have hmany := hm.many
    simp only [List.length_cons] at h hlf
    have hz : ∃ z4 z5 z6 : Option E, depL [some (.p m.p), dctE encN f, linE (md :: l), x3, x4, x5, x6] = .nx [some (.p m.p), dctE encN (scan (way f md) ll 0 f l).1, linE (scan (way f md) ll 0 f l).2, intE md, z4, z5, z6] := by
      obtain ⟨y4, y5, y6, hs⟩ := dep_scan (some (.p m.p)) md ll 0 f l x4 x5 x6 (hk md List.mem_cons_self) (by omega) (by omega)
      refine ⟨y4, y5, y6, ?_⟩
      let Γ1 : G := [some (.p m.p), dctE encN f, linE l, intE md, x4, x5, x6]
      unfold depL
      rw [seqS_nx (Γ1 := Γ1) (asgP (pop0_ok rfl) rfl)]
      have hit : sqI (e2 ixD (e2 ixD (rd 0) (cE (.int 3))) (rd 3)) Γ1 = .ok Γ1 (.p (linP ll), (ll.map entP).map .p) :=
        sqI_tup (ix_ok (i := md) (xs := m.lines.map linP) (x := linP ll) rfl rfl (lin_get e1'))
      rw [forS_eq hit]
      exact hs
    obtain ⟨z4, z5, z6, hz⟩ := hz
    obtain ⟨y3, y4, y5, y6, ih⟩ := dep_while hm n _ _ (intE md) z4 z5 z6 e4' e5' (by omega) (e7' (by omega))
    refine ⟨y3, y4, y5, y6, ?_⟩
    have hc := line_ok (Γ := [some (.p m.p), dctE encN f, linE (md :: l), x3, x4, x5, x6]) (i := 2) (l := md :: l) rfl (wints hf hmany hk)
    rw [decide_eq_true (List.cons_ne_nil _ _)] at hc
    unfold whileN
    rw [hc]
    simp only [Rs.out, if_true, hz]
    have hbf : bfs m.lines (n + 1) f (md :: l) = bfs m.lines n (scan (way f md) ll 0 f l).1 (scan (way f md) ll 0 f l).2 := by rw [← e2']; rfl
    rw [ih, hbf]
/-- _the law's depths -/
theorem depths_p {m : Mac} (hm : m.Ok) : ∃ Γ, F__law_depths [.p m.p] = .ok Γ (.o (.dct (encD encN (waysM m)))) := by
  obtain ⟨y3, y4, y5, y6, h⟩ := dep_while hm (m.boxes.length + 1) [(0, [])] [0] none none none none (w0_ok hm.l) (fun k hk => by simpa [keys] using hk) (by simp) (by simp)
  refine ⟨[some (.p m.p), none, linE [], y3, y4, y5, y6], fnE_o ?_⟩
  show b__law_depths [some (.p m.p), none, none, none, none, none, none] = _
  unfold b__law_depths
  rw [seqS_nx (Γ1 := [some (.p m.p), dctE encN [(0, [])], linE [0], none, none, none, none]) (par_ok (Γ1 := [some (.p m.p), none, none, none, none, none, none]) (Γ2 := [some (.p m.p), none, none, none, none, none, none]) (a := .o (.dct (encD encN [(0, [])]))) (b := .o (.lst ((nats [0]).map .p))) (own_o rfl) (own_o rfl))]
  rw [seqS_nx (while_eq h)]
  rfl
end
end Kv.W

set_option Elab.async false
set_option linter.all false
set_option maxRecDepth 100000
set_option maxHeartbeats 4000000
set_option autoImplicit false
/-! the plain law of k46: marks read, fresh values -/
namespace Kv.W
open PySem PySem.Spec L2 Kv M
variable [Tbl]
def mkP : Mk Str → P
  | .inl w => .str w
  | .inr n => .int (n : Int)
def mks (l : List (Mk Str)) : List P := l.map mkP
theorem mks_len (l : List (Mk Str)) : (mks l).length = l.length := by simp [mks]
theorem pth_pre {c : Nat} {B : List Nat} {L : Lines} {w : List Nat} {k : Nat} (h : Pth c B L w k) : ∀ {w1 w2 : List Nat}, w = w1 ++ w2 → ∃ k1, Pth c B L w1 k1 := by
  induction h with
  | nil =>
    intro w1 w2 e
    have : w1 = [] := by
      cases w1 with
      | nil => rfl
      | cons _ _ => cases e
    subst this
    exact ⟨0, .nil⟩
  | @snoc w q b s hp hb hs ih =>
    intro w1 w2 e
    rcases List.eq_nil_or_concat w2 with rfl | ⟨w3, s', rfl⟩
    · rw [List.append_nil] at e
      subst e
      exact ⟨_, .snoc hp hb hs⟩
    · rw [List.concat_eq_append, ← List.append_assoc] at e
      exact ih (List.append_inj_left' e rfl)
theorem pth_inv {c : Nat} {B : List Nat} {L : Lines} {w : List Nat} {s k : Nat} (h : Pth c B L (w ++ [s]) k) : ∃ q b, Pth c B L w q ∧ B[q]? = some b ∧ s < c + b + 1 := by
  generalize hw : w ++ [s] = w' at h
  cases h with
  | nil => simp at hw
  | @snoc w0 q b s0 hp hb hs =>
    have h1 := List.append_inj_left' hw rfl
    have h2 := List.append_inj_right' hw rfl
    cases h2
    subst h1
    exact ⟨q, b, hp, hb, hs⟩
abbrev markB : X3 := seqS (asgS (nmT 8) (tupE (starA (e2 ixD (rd 0) (cE (.int 0))) (starA (rd 4) (conA (rd 6) nilA)))))
    (seqS (dropS (e2r isL appO (rd 5) (own (e2 ixD (rd 8) (rd 7)))))
    (seqS (augS 6 (fun i j => i + j) (e1 intO (e2 eqE (rd 7) (e2 addI (rd 2) (e1 lenE (rd 4))))))
    (seqS (asgS (tupT 3 (conT (nmT 9) (conT (nmT 3) (conT (nmT 10) nilT)))) (e2 ixD (e2 ixD (e2 ixD (rd 0) (cE (.int 3))) (rd 3)) (rd 7)))
    (asgS (nmT 4) (e1 tupO (lcE (sqI (rd 10)) [11] (nmT 11) yesB (e2 ixD (rd 8) (rd 11))))))))
abbrev marksG (m : Mac) (S : Option E) (x : Sy Str) (y7 y8 y9 y10 : Option E) : G := [some (.p m.p), S, intE m.words.length, intE x.q, some (.p (.tup (mks x.vs))), some (.o (.lst ((mks x.found).map .p))), intE x.many, y7, y8, y9, y10, none]
theorem aug_ok {i : Nat} {f : X1} {g : Int → Int → Int} {Γ Γ1 : G} {a b : Int} (hi : Γ[i]? = some (some (.p (.int a)))) (hf : f Γ = .ok Γ1 (.p (.int b))) : augS i g f Γ = .nx (Γ1.set i (some (.p (.int (g a b))))) := by
  unfold augS; rw [hi]; simp only [hf, Rs.out]
theorem intO_bl {f : X1} {Γ Γ1 : G} {c : Bool} (hf : f Γ = .ok Γ1 (.p (.bl c))) : e1 intO f Γ = .ok Γ1 (.p (.int (if c then 1 else 0))) := by
  unfold e1; rw [hf]; rfl
theorem markB_ok {m : Mac} (hm : m.Ok) {w : List Nat} {k s : Nat} (hp : Pth m.words.length m.boxes m.lines w k) {b : Nat} (hb : m.boxes[k]? = some b) (hs : s < m.words.length + b + 1) (hwl : w.length < 1000) (S y8 y9 y10 : Option E) :
    ∃ z8 z9 z10 : Option E, markB (marksG m S (sy m.lines m.words w) (intE s) y8 y9 y10) = .nx (marksG m S (sy m.lines m.words (w ++ [s])) (intE s) z8 z9 z10) := by
  rw [sy_snoc]
  have I := sinv_ok hm.wd hm.l hp
  generalize sy m.lines m.words w = x at I ⊢
  have hq := I.q
  subst hq
  have hbe : b = x.vs.length := by have := I.b; rw [hb] at this; exact Option.some_inj.mp this
  subst hbe
  obtain ⟨l, k1, k2, k3, k4⟩ := hm.l.at hb hs
  have b2 : x.vs.length ≤ 2 := hm.bl _ (List.mem_of_getElem? hb)
  have fl : (M.ent m.lines x.q s).fills.length ≤ 2 := hm.bl _ (List.mem_of_getElem? k4.fl)
  have wl := hm.wl
  have lt : (syT m.words x).length = m.words.length + x.vs.length + 1 := by unfold syT; rw [things_len, List.length_map]
  have hth : mks (syT m.words x) = txts m.words ++ (mks x.vs ++ [.int (x.many : Int)]) := by
    unfold syT things mks txts
    simp [mkP, Function.comp_def]
  obtain ⟨mk, hmk⟩ : ∃ mk, (syT m.words x)[s]? = some mk := ⟨_, List.getElem?_eq_getElem (by rw [lt]; exact hs)⟩
  have efound : (sy1 m.lines m.words x s).found = x.found ++ [mk] := by unfold sy1; rw [hmk]; rfl
  let Th : Option E := some (.p (.tup (mks (syT m.words x))))
  let y := sy1 m.lines m.words x s
  let F1 : Option E := some (.o (.lst ((mks (x.found ++ [mk])).map .p)))
  let V0 : Option E := some (.p (.tup (mks x.vs)))
  let W : Option E := intE m.words.length
  let An : Option E := some (.p (.tup (nats (M.ent m.lines x.q s).ans)))
  let Fi : Option E := some (.p (.tup (nats (M.ent m.lines x.q s).fills)))
  let Γ0 : G := marksG m S x (intE s) y8 y9 y10
  let Γ1 : G := marksG m S x (intE s) Th y9 y10
  let Γ2 : G := [some (.p m.p), S, W, intE x.q, V0, F1, intE x.many, intE s, Th, y9, y10, none]
  let Γ3 : G := [some (.p m.p), S, W, intE x.q, V0, F1, intE y.many, intE s, Th, y9, y10, none]
  let Γ4 : G := [some (.p m.p), S, W, intE y.q, V0, F1, intE y.many, intE s, Th, An, Fi, none]
  refine ⟨Th, An, Fi, ?_⟩
  show markB Γ0 = _
  unfold markB
  have h1 : tupE (starA (e2 ixD (rd 0) (cE (.int 0))) (starA (rd 4) (conA (rd 6) nilA))) Γ0 = .ok Γ0 (.p (.tup (mks (syT m.words x)))) := by
    rw [hth]
    refine tup_p (star_p (ix_ok (i := 0) (xs := [.tup (txts m.words), .tup (nats m.boxes), .tup (nats m.yes), .tup (m.lines.map linP)]) (rd_p rfl) rfl rfl) (star_p (ys := [.int (x.many : Int)]) (rd_p rfl) (con_ok (rd_p rfl) rfl))) ?_
    simp only [List.length_append, txts_len, mks_len, List.length_singleton]
    omega
  rw [seqS_nx (Γ1 := Γ1) (asgP h1 rfl)]
  have h2 : e2 ixD (rd 8) (rd 7) Γ1 = .ok Γ1 (.p (mkP mk)) := ix_ok (rd_p rfl) (rd_p rfl) (by unfold mks; rw [List.getElem?_map, hmk]; rfl)
  have h2' : mks x.found ++ [mkP mk] = mks (x.found ++ [mk]) := by simp [mks]
  rw [seqS_nx (Γ1 := Γ2) (by rw [app_ok (Γ := Γ1) (xs := mks x.found) (y := mkP mk) rfl h2 (by rw [mks_len, I.len]; omega), h2']; rfl)]
  have h3 : e1 intO (e2 eqE (rd 7) (e2 addI (rd 2) (e1 lenE (rd 4)))) Γ2 = .ok Γ2 (.p (.int (if s = m.words.length + x.vs.length then 1 else 0))) := by
    rw [intO_bl (eqI_ok (rd_p rfl) (add_ok (rd_p rfl) (len_tup (xs := mks x.vs) (rd_p rfl))))]
    rw [mks_len]
    have : ((s : Int) = (m.words.length : Int) + (x.vs.length : Int)) ↔ s = m.words.length + x.vs.length := by omega
    simp only [decide_eq_true_eq, this]
  have hmy : (y.many : Int) = (x.many : Int) + (if s = m.words.length + x.vs.length then 1 else 0) := by
    show (((x.many + (if s = m.words.length + x.vs.length then 1 else 0) : Nat)) : Int) = _
    split <;> simp
  rw [seqS_nx (Γ1 := Γ3) (by rw [aug_ok (a := (x.many : Int)) rfl h3, ← hmy]; rfl)]
  have h4 : e2 ixD (e2 ixD (e2 ixD (rd 0) (cE (.int 3))) (rd 3)) (rd 7) Γ3 = .ok Γ3 (.p (.tup [.tup (nats (M.ent m.lines x.q s).ans), nat' (M.ent m.lines x.q s).to, .tup (nats (M.ent m.lines x.q s).fills)])) :=
    ix_ok (i := s) (ix_ok (xs := m.lines.map linP) rfl (i := x.q) rfl (lin_get k1)) (rd_p rfl) (ent_get k3)
  rw [seqS_nx (Γ1 := Γ4) (asgP h4 rfl)]
  have c2 := comp_picks (Γ := Γ4) (a := 10) (t := 8) (w := 11) (is := (M.ent m.lines x.q s).fills) (ts := mks (syT m.words x)) rfl (.inl rfl) (by decide) (by simp [Γ4]) (fun f hf => by rw [mks_len, lt]; exact Nat.lt_of_lt_of_le (k4.fr f hf).2 (hand_le ..)) (by omega)
  have w4 : Γ4.set 11 none = Γ4 := rfl
  rw [w4] at c2
  have hv : picks (mks (syT m.words x)) (M.ent m.lines x.q s).fills = mks y.vs := by unfold mks; rw [picks_map]; rfl
  rw [hv] at c2
  rw [asgP (tupO_ok c2) (Γ2 := marksG m S y (intE s) Th An Fi) (by rw [marksG, efound]; rfl)]
theorem mark_loop {m : Mac} (hm : m.Ok) (S : Option E) : ∀ (w2 w1 : List Nat) (k : Nat) (y7 y8 y9 y10 : Option E), Pth m.words.length m.boxes m.lines (w1 ++ w2) k → (w1 ++ w2).length < 1000 → ∃ z7 z8 z9 z10 : Option E,
    forL (nmT 7) markB (w2.map fun s : Nat => .p (.int (s : Int))) (marksG m S (sy m.lines m.words w1) y7 y8 y9 y10) = .nx (marksG m S (sy m.lines m.words (w1 ++ w2)) z7 z8 z9 z10)
  | [], w1, k, y7, y8, y9, y10, _, _ => ⟨y7, y8, y9, y10, by rw [List.append_nil]; rfl⟩
  | s :: w2, w1, k, y7, y8, y9, y10, hp, hl => by
    have e : w1 ++ s :: w2 = (w1 ++ [s]) ++ w2 := by simp
    obtain ⟨k1, hp1⟩ := pth_pre hp e
    obtain ⟨q, b, hq, hb, hs⟩ := pth_inv hp1
    obtain ⟨z8, z9, z10, h1⟩ := markB_ok hm hq hb hs (by simp at hl; omega) S y8 y9 y10
    rw [e] at hp hl
    obtain ⟨u7, u8, u9, u10, ih⟩ := mark_loop hm S w2 (w1 ++ [s]) k (intE s) z8 z9 z10 hp hl
    refine ⟨u7, u8, u9, u10, ?_⟩
    rw [List.map_cons, forL_cons (Γ1 := marksG m S (sy m.lines m.words w1) (intE s) y8 y9 y10) rfl h1, ih, e]
/-- _marks_read -/
theorem marks_p {m : Mac} (hm : m.Ok) {w : List Nat} {k : Nat} (hp : Pth m.words.length m.boxes m.lines w k) (hl : w.length < 1000) : ∃ Γ, F_marks_read [.p m.p, .p (.tup (nats w))] = .ok Γ (.o (.tup [.lst ((mks (sy m.lines m.words w).found).map .p), .p (.tup (mks (sy m.lines m.words w).vs))])) := by
  obtain ⟨z7, z8, z9, z10, h⟩ := mark_loop hm (some (.p (.tup (nats w)))) w [] k none none none none hp hl
  refine ⟨[some (.p m.p), some (.p (.tup (nats w))), intE m.words.length, intE (sy m.lines m.words w).q, some (.p (.tup (mks (sy m.lines m.words w).vs))), none, intE (sy m.lines m.words w).many, z7, z8, z9, z10, none], fnE_o ?_⟩
  show b_marks_read [some (.p m.p), some (.p (.tup (nats w))), none, none, none, none, none, none, none, none, none, none] = _
  unfold b_marks_read
  have hx : tupE (conA (e1 lenE (e2 ixD (rd 0) (cE (.int 0)))) (conA (cE (.int 0)) (conA (tupE nilA) (conA (lstE nilA) (conA (cE (.int 0)) nilA))))) [some (.p m.p), some (.p (.tup (nats w))), none, none, none, none, none, none, none, none, none, none] =
      .ok [some (.p m.p), some (.p (.tup (nats w))), none, none, none, none, none, none, none, none, none, none] (.o (.tup [.p (.int (m.words.length : Nat)), .p (.int 0), .p (.tup []), .lst [], .p (.int 0)])) := by
    unfold tupE
    rw [con_ok (len_tup (xs := txts m.words) (ix_ok (i := 0) (xs := [.tup (txts m.words), .tup (nats m.boxes), .tup (nats m.yes), .tup (m.lines.map linP)]) (rd_p rfl) rfl rfl)) (es := [.p (.int 0), .p (.tup []), .o (.lst []), .p (.int 0)]) rfl, txts_len]
    rfl
  rw [seqS_nx (Γ1 := marksG m (some (.p (.tup (nats w)))) sy0 none none none none) (asgO hx rfl)]
  have hit : sqI (rd 1) (marksG m (some (.p (.tup (nats w)))) sy0 none none none none) = .ok (marksG m (some (.p (.tup (nats w)))) sy0 none none none none) (.p (.tup (nats w)), w.map fun s : Nat => .p (.int (s : Int))) := by
    rw [sqI_tup (xs := nats w) (rd_p rfl)]; simp [nats, Function.comp_def]
  rw [seqS_nx (by rw [forS_eq hit]; exact h)]
  rfl
theorem ofS_map (xs : List P) : (xs.map D.p).map ofS = xs.map .p := by rw [List.map_map]; rfl
theorem sqI_s {Γ : G} {i : Nat} {xs : List P} (h : Γ[i]? = some (some (.s (.lst (xs.map .p))))) : sqI (rd i) Γ = .ok Γ (.s (.lst (xs.map .p)), xs.map .p) := by
  unfold sqI shr
  rw [rd_s h]
  show Rs.ok Γ (E.s (.lst (xs.map .p)), (xs.map D.p).map ofS) = _
  rw [ofS_map]
theorem sqI_b {Γ : G} {i : Nat} {xs : List P} (h : Γ[i]? = some (some (.o (.lst (xs.map .p))))) : sqI (rd i) Γ = .ok (Γ.set i (some (.s (.lst (xs.map .p))))) (.s (.lst (xs.map .p)), xs.map .p) := by
  unfold sqI shr
  rw [rd_o h]
  simp only [Rs.bind_ok, h]
  show Rs.ok _ (E.s (.lst (xs.map .p)), (xs.map D.p).map ofS) = _
  rw [ofS_map]
/-! ### fresh values -/
def vK (k : Nat) : Str := "v" ++ (toString (k : Int) : Str)
theorem vK_nodup : ((List.range 40).map vK).Nodup := by decide +kernel
theorem vK_fit : ∀ k < 40, PyData.strOk (vK k) = true ∧ (vK k).cps.size ≤ 30 ∧ (vK k).length ≤ 30 := by decide +kernel
theorem sub_len {α : Type} [DecidableEq α] : ∀ {l r : List α}, l.Nodup → (∀ x ∈ l, x ∈ r) → l.length ≤ r.length
  | [], _, _, _ => Nat.zero_le _
  | a :: l, r, hn, hs => by
    have hn' := List.nodup_cons.mp hn
    have ha := hs a List.mem_cons_self
    have ih := sub_len (l := l) (r := r.erase a) hn'.2 fun x hx => by
      have hne : x ≠ a := fun e => hn'.1 (e ▸ hx)
      exact (List.mem_erase_of_ne hne).mpr (hs x (List.mem_cons_of_mem _ hx))
    rw [List.length_erase_of_mem ha] at ih
    have := List.length_pos_of_mem ha
    simp only [List.length_cons]
    omega
theorem filter_split {α : Type} (p : α → Bool) : ∀ l : List α, (l.filter p).length + (l.filter fun v => !p v).length = l.length
  | [] => rfl
  | a :: l => by
    have ih := filter_split p l
    rw [List.filter_cons, List.filter_cons]
    cases h : p a <;> simp [h] <;> omega
def freshV (ws held : List Str) (n : Nat) : List Str := (((List.range (n + ws.length + held.length)).map vK).filter fun v => decide (v ∉ ws) && decide (v ∉ held)).take n
theorem vs_nodup {n : Nat} (h : n ≤ 40) : ((List.range n).map vK).Nodup := by
  have e : List.range n = (List.range 40).take n := by rw [List.take_range]; congr 1; omega
  rw [e, List.map_take]
  exact (List.take_sublist _ _).nodup vK_nodup
theorem freshV_ok {ws held : List Str} {n : Nat} (h : n + ws.length + held.length ≤ 40) : (freshV ws held n).Nodup ∧ (∀ f ∈ freshV ws held n, f ∉ ws ∧ f ∉ held ∧ ∃ k < 40, f = vK k) ∧ n ≤ (freshV ws held n).length := by
  have hn := vs_nodup h
  refine ⟨?_, ?_, ?_⟩
  · exact (List.take_sublist _ _).nodup (hn.filter _)
  · intro f hf
    have h1 := List.mem_of_mem_take hf
    rw [List.mem_filter, Bool.and_eq_true, decide_eq_true_eq, decide_eq_true_eq] at h1
    obtain ⟨k, hk, e⟩ := List.mem_map.mp h1.1
    exact ⟨h1.2.1, h1.2.2, k, by have := List.mem_range.mp hk; omega, e.symm⟩
  · unfold freshV
    rw [List.length_take]
    generalize hp : (fun v => decide (v ∉ ws) && decide (v ∉ held)) = p
    have h1 : (((List.range (n + ws.length + held.length)).map vK).filter p).length + (((List.range (n + ws.length + held.length)).map vK).filter fun v => !p v).length = n + ws.length + held.length := by
      have := filter_split p ((List.range (n + ws.length + held.length)).map vK)
      rw [List.length_map, List.length_range] at this
      exact this
    have h2 : (((List.range (n + ws.length + held.length)).map vK).filter fun v => !p v).length ≤ (ws ++ held).length := sub_len (hn.filter _) fun x hx => by
      rw [List.mem_filter] at hx
      have hx := hx.2
      rw [← hp] at hx
      rw [List.mem_append]
      by_cases hw : x ∈ ws
      · exact .inl hw
      · by_cases hh : x ∈ held
        · exact .inr hh
        · simp [hw, hh] at hx
    rw [List.length_append] at h2
    omega
theorem fresh_p {ws held : List Str} {n : Nat} (h : n + ws.length + held.length ≤ 40) : ∃ Γ, F_fresh_values [.p (.tup (txts ws)), .p (.tup (txts held)), .p (.int (n : Int))] = .ok Γ (.o (.lst ((txts (freshV ws held n)).map .p))) := by
  let W : Option E := some (.p (.tup (txts ws)))
  let Hd : Option E := some (.p (.tup (txts held)))
  let vs : List Str := (List.range (n + ws.length + held.length)).map vK
  let Γ0 : G := [W, Hd, intE n, none, none, none]
  let Γ1 : G := [W, Hd, intE n, some (.o (.lst ((txts vs).map .p))), none, none]
  let Γ2 : G := [W, Hd, intE n, some (.s (.lst ((txts vs).map .p))), none, none]
  refine ⟨Γ2, fnE_o ?_⟩
  show b_fresh_values Γ0 = _
  unfold b_fresh_values
  have hr : rgI1 (e2 addI (e2 addI (rd 2) (e1 lenE (rd 0))) (e1 lenE (rd 1))) Γ0 = .ok Γ0 (.p .non, (List.range (n + ws.length + held.length)).map fun k : Nat => E.p (.int (k : Int))) := by
    have h1 : e2 addI (e2 addI (rd 2) (e1 lenE (rd 0))) (e1 lenE (rd 1)) Γ0 = .ok Γ0 (.p (.int ((n + ws.length + held.length : Nat) : Int))) := by
      rw [add_ok (add_ok (rd_p rfl) (len_tup (xs := txts ws) (rd_p rfl))) (len_tup (xs := txts held) (rd_p rfl)), txts_len, txts_len]
      simp
    rw [rgI1_ok h1 (by omega) (by omega), Int.toNat_natCast]
    unfold rgE
    simp
  have hc1 := comp_ok (it := rgI1 (e2 addI (e2 addI (rd 2) (e1 lenE (rd 0))) (e1 lenE (rd 1)))) (ws := [4]) (t := nmT 4) (f := e2 catS (cE (.str "v")) (e1 strO (rd 4))) (fun k : Nat => P.str (vK k)) (List.range (n + ws.length + held.length)) hr (by simp; omega) fun k hk => by
    have hk := List.mem_range.mp hk
    refine ⟨[W, Hd, intE n, none, intE k, none], [W, Hd, intE n, none, intE k, none], rfl, own_p ?_, rfl⟩
    have hf := vK_fit k (by omega)
    have h1 : e1 strO (rd 4) [W, Hd, intE n, none, intE k, none] = .ok [W, Hd, intE n, none, intE k, none] (.p (.str (toString (k : Int)))) := by
      show (if (k : Int).natAbs.log2 < 1920 then Rs.ok _ (E.p (.str (toString (k : Int)))) else .bad) = _
      rw [if_pos]
      have : (k : Int).natAbs = k := by omega
      rw [this]
      have h2 : k.log2 ≤ k := Nat.log2_le_self k
      omega
    unfold e2
    simp only [cE, Rs.bind_ok, h1]
    have h3 : ("v" : Str).length + (toString (k : Int) : Str).length ≤ 1000000 := by
      have := hf.2.2
      unfold vK at this
      have e : (("v" : Str) ++ (toString (k : Int) : Str)).length = ("v" : Str).length + (toString (k : Int) : Str).length := strLen_append ..
      omega
    show (if ("v" : Str).length + (toString (k : Int) : Str).length ≤ 1000000 then Rs.ok _ (E.p (.str ("v" ++ (toString (k : Int) : Str)))) else .bad) = _
    rw [if_pos h3]; rfl
  have e1' : (List.range (n + ws.length + held.length)).map (fun k : Nat => P.str (vK k)) = txts vs := by simp [txts, vs, Function.comp_def]
  rw [e1'] at hc1
  rw [seqS_nx (Γ1 := Γ1) (asgO hc1 rfl)]
  have hit : sqI (rd 3) Γ1 = .ok Γ2 (.s (.lst ((txts vs).map .p)), vs.map fun v => E.p (.str v)) := by
    rw [sqI_b (xs := txts vs) rfl]
    simp [txts, Function.comp_def, Γ2, Γ1]
  have hc2 := compf_ok (it := sqI (rd 3)) (ws := [5]) (t := nmT 5) (c := andB (tst (e2 niE (rd 5) (rd 0))) (tst (e2 niE (rd 5) (rd 1)))) (f := rd 5) (fun v : Str => decide (v ∉ ws) && decide (v ∉ held)) P.str vs hit (by simp [vs]; omega) fun v _ => by
    refine ⟨[W, Hd, intE n, some (.s (.lst ((txts vs).map .p))), none, some (.p (.str v))], [W, Hd, intE n, some (.s (.lst ((txts vs).map .p))), none, some (.p (.str v))], rfl, ?_, rfl, fun _ => ⟨[W, Hd, intE n, some (.s (.lst ((txts vs).map .p))), none, some (.p (.str v))], own_p (rd_p rfl), rfl⟩⟩
    have a1 := tst_ok (ni_txts (f := rd 5) (g := rd 0) (Γ := [W, Hd, intE n, some (.s (.lst ((txts vs).map .p))), none, some (.p (.str v))]) (l := ws) (rd_p rfl) (rd_p rfl) rfl)
    have a2 := tst_ok (ni_txts (f := rd 5) (g := rd 1) (Γ := [W, Hd, intE n, some (.s (.lst ((txts vs).map .p))), none, some (.p (.str v))]) (l := held) (rd_p rfl) (rd_p rfl) rfl)
    unfold andB
    rw [a1]
    simp only [Rs.bind_ok]
    by_cases hw : v ∉ ws
    · rw [if_pos (decide_eq_true hw), a2, decide_eq_true hw, Bool.true_and]
    · rw [if_neg (by rw [decide_eq_false hw]; simp), decide_eq_false hw, Bool.false_and]
  refine retO ?_
  unfold slE
  simp only [hc2, Rs.bind_ok, noP, soP, rd_p (Γ := wipeG Γ2 [5]) (i := 2) (x := .int (n : Int)) rfl]
  have hv : val (wipeG Γ2 [5]) (.o (.lst (((vs.filter fun v => decide (v ∉ ws) && decide (v ∉ held)).map P.str).map .p))) = some (.lst (((vs.filter fun v => decide (v ∉ ws) && decide (v ∉ held)).map P.str).map .p)) := rfl
  simp only [hv, unP_map]
  have hcut : cut ((vs.filter fun v => decide (v ∉ ws) && decide (v ∉ held)).map P.str) none (some (n : Int)) = txts (freshV ws held n) := by
    unfold cut
    have h1 : ∀ k, HT.sIx k 0 none = 0 := fun k => rfl
    have h2 : ∀ k : Nat, HT.sIx k k (some (n : Int)) = min n k := fun k => by
      unfold HT.sIx
      simp
      omega
    rw [h1, h2, List.drop_zero, Nat.sub_zero]
    unfold freshV txts
    rw [List.map_take]
    show _ = List.take n (((vs.filter fun v => decide (v ∉ ws) && decide (v ∉ held))).map P.str)
    generalize ((vs.filter fun v => decide (v ∉ ws) && decide (v ∉ held)).map P.str) = z
    by_cases hz : n ≤ z.length
    · rw [Nat.min_eq_left hz]
    · rw [Nat.min_eq_right (by omega), List.take_length, List.take_of_length_le (by omega)]
  rw [hcut]
  rfl
end Kv.W

set_option Elab.async false
set_option linter.all false
set_option maxRecDepth 100000
set_option maxHeartbeats 4000000
set_option autoImplicit false
/-! the plain law of k46: the short row -/
namespace Kv.W
open PySem PySem.Spec L2 Kv M
variable [Tbl]
/-- values of marks, as a dict -/
def kD (kn : Kn Str) : List (Key × D) := kn.map fun q => (Sum.inl (q.1 : Int), D.p (.str q.2))
theorem kD_len (kn : Kn Str) : (kD kn).length = kn.length := by simp [kD]
theorem kD_get : ∀ (kn : Kn Str) (k : Nat), dget (kD kn) (.inl (k : Int)) = if k ∈ kkeys kn then some (.p (.str (look kn "" (.inr k)))) else none
  | [], k => rfl
  | q :: f, k => by
    have ih := kD_get f k
    unfold dget kD at ih ⊢
    rw [List.map_cons, List.find?_cons]
    by_cases h : q.1 = k
    · subst h
      have : look (q :: f) "" (.inr q.1) = q.2 := by
        show (((q :: f).find? fun z => decide (z.1 = q.1)).map (·.2)).getD ("" : Str) = q.2
        rw [List.find?_cons]; simp
      simp [kkeys, this]
    · have h2 : (decide (((Sum.inl (q.1 : Int) : Key), D.p (.str q.2)).1 = Sum.inl (k : Int))) = false := decide_eq_false (inl_ne h)
      rw [h2]
      have h3 : look (q :: f) "" (.inr k) = look f "" (.inr k) := by
        show (((q :: f).find? fun z => decide (z.1 = k)).map (·.2)).getD ("" : Str) = ((f.find? fun z => decide (z.1 = k)).map (·.2)).getD ("" : Str)
        rw [List.find?_cons]; simp [h]
      have h4 : (k ∈ kkeys (q :: f)) ↔ k ∈ kkeys f := by
        unfold kkeys
        rw [List.map_cons, List.mem_cons]
        exact ⟨fun z => z.resolve_left fun e => h e.symm, .inr⟩
      rw [h3]
      simp only [h4]
      exact ih
theorem kD_put {f : Kn Str} {k : Nat} (h : k ∉ kkeys f) (v : Str) : dput (kD f) (.inl (k : Int)) (.p (.str v)) = kD (f ++ [(k, v)]) := by
  unfold dput
  have h1 : ((kD f).any fun kv => decide (kv.1 = Sum.inl (k : Int))) = false := by
    rw [List.any_eq_false]
    intro kv hkv
    obtain ⟨q, hq, rfl⟩ := List.mem_map.mp hkv
    have : ¬ q.1 = k := fun e => h (List.mem_map.mpr ⟨q, hq, e⟩)
    simpa using inl_ne this
  rw [h1]
  simp [kD]
theorem kD_merge : ∀ (g f : Kn Str), (kkeys (f ++ g)).Nodup → mergeD (kD f) (kD g) = kD (f ++ g)
  | [], f, _ => by simp [mergeD, kD]
  | q :: g, f, h => by
    have h0 : q.1 ∉ kkeys f := by
      unfold kkeys at h ⊢
      rw [List.map_append, List.nodup_append] at h
      exact fun z => h.2.2 _ z _ (by simp) rfl
    have e : f ++ q :: g = (f ++ [q]) ++ g := by simp
    have ih := kD_merge g (f ++ [q]) (by rw [← e]; exact h)
    rw [e, ← ih]
    unfold mergeD
    have : kD (q :: g) = (Sum.inl (q.1 : Int), D.p (.str q.2)) :: kD g := rfl
    rw [this, List.foldl_cons, kD_put h0]
theorem prK_zip : ∀ (ks : List Nat) (vs : List Str), prK (zipP (nats ks) (txts vs)) = some (kD (ks.zip vs))
  | [], _ => rfl
  | _ :: _, [] => rfl
  | k :: ks, v :: vs => by
    have ih := prK_zip ks vs
    have e1 : zipP (nats (k :: ks)) (txts (v :: vs)) = .tup [.int (k : Int), .str v] :: zipP (nats ks) (txts vs) := rfl
    rw [e1]
    show (match some (Sum.inl (k : Int) : Key) with | some k => (prK (zipP (nats ks) (txts vs))).map ((k, D.p (.str v)) :: ·) | none => none) = _
    rw [ih]
    rfl
abbrev knE (kn : Kn Str) : Option E := some (.o (.dct (kD kn)))
theorem mks_nums {ms : List (Mk Str)} (h : ∀ m ∈ ms, ∃ j, m = .inr j) : mks ms = nats (nums ms) := by
  have e := nums_eq h
  have : mks ms = mks ((nums ms).map Sum.inr) := by rw [e]
  rw [this]
  unfold mks nats
  rw [List.map_map]; rfl
abbrev srB : X3 := ifS (andB (tst (e1 (isiO "int") (rd 7))) (tst (e2 dniE (rd 7) (rd 5)))) (dputS (e2r isL popA (rd 6) (cE (.int 0))) (rd 5) (rd 7)) skipS
theorem isi_int {f : X1} {Γ Γ1 : G} {i : Int} (hf : f Γ = .ok Γ1 (.p (.int i))) : e1 (isiO "int") f Γ = .ok Γ1 (.p (.bl true)) := by
  unfold e1; rw [hf]; rfl
theorem isi_str {f : X1} {Γ Γ1 : G} {i : Str} (hf : f Γ = .ok Γ1 (.p (.str i))) : e1 (isiO "int") f Γ = .ok Γ1 (.p (.bl false)) := by
  unfold e1; rw [hf]; rfl
theorem dnk_ok {f g : X1} {Γ Γ1 Γ2 : G} {e : E} {k : Nat} {w : Kn Str} (hf : f Γ = .ok Γ1 (.p (.int (k : Int)))) (hg : g Γ1 = .ok Γ2 e) (he : val Γ2 e = some (.dct (kD w))) : e2 dniE f g Γ = .ok Γ2 (.p (.bl (decide (k ∉ kkeys w)))) := by
  unfold e2; simp only [hf, hg, Rs.bind_ok]
  unfold dniE dinOf
  rw [he]
  show (match some (dget (kD w) (.inl (k : Int))).isSome with | some c => Rs.ok Γ2 (E.p (.bl (!c))) | none => .bad) = _
  rw [kD_get]
  by_cases h : k ∈ kkeys w
  · simp [h]
  · simp [h]
theorem pop0_txt {Γ : G} {i : Nat} {v : Str} {l : List Str} (hi : Γ[i]? = some (some (.o (.lst ((txts (v :: l)).map .p))))) : e2r isL popA (rd i) (cE (.int 0)) Γ = .ok (Γ.set i (some (.o (.lst ((txts l).map .p))))) (.p (.str v)) := by
  have h1 : isL Γ (.b i) = true := by unfold isL; rw [val_b hi]
  unfold e2r
  rw [rd_o hi]
  simp only [Rs.bind_ok]
  rw [if_pos h1]
  show popA Γ (.b i) (.p (.int 0)) = _
  unfold popA
  simp only [hi]
  rfl
theorem sr_loop (A B C F X : Option E) : ∀ (ms : List (Mk Str)) (kn : Kn Str) (fr : List Str) (x7 : Option E), ms.length ≤ fr.length → kn.length + ms.length < 1000 → ∃ (fr' : List Str) (y7 : Option E),
    forL (nmT 7) srB ((mks ms).map .p) [A, B, C, F, X, knE kn, some (.o (.lst ((txts fr).map .p))), x7] = .nx [A, B, C, F, X, knE (fill kn ms fr), some (.o (.lst ((txts fr').map .p))), y7]
  | [], kn, fr, x7, _, _ => ⟨fr, x7, by simp [mks, forL, fill]⟩
  | .inl a :: ms, kn, fr, x7, hl, hk => by
    obtain ⟨fr', y7, ih⟩ := sr_loop A B C F X ms kn fr (some (.p (.str a))) (by simp at hl; omega) (by simp at hk; omega)
    refine ⟨fr', y7, ?_⟩
    let Γ1 : G := [A, B, C, F, X, knE kn, some (.o (.lst ((txts fr).map .p))), some (.p (.str a))]
    have hc : andB (tst (e1 (isiO "int") (rd 7))) (tst (e2 dniE (rd 7) (rd 5))) Γ1 = .ok Γ1 false := by
      unfold andB
      rw [tst_ok (isi_str (rd_p (x := .str a) rfl))]; rfl
    rw [show (mks (.inl a :: ms)).map E.p = .p (.str a) :: (mks ms).map .p from rfl, forL_cons (Γ1 := Γ1) (Γ2 := Γ1) rfl (by unfold srB; rw [ifS_f hc]; rfl), ih]
    rfl
  | .inr k :: ms, kn, fr, x7, hl, hk => by
    simp only [List.length_cons] at hl hk
    let Γ1 : G := [A, B, C, F, X, knE kn, some (.o (.lst ((txts fr).map .p))), intE k]
    have hc : andB (tst (e1 (isiO "int") (rd 7))) (tst (e2 dniE (rd 7) (rd 5))) Γ1 = .ok Γ1 (decide (k ∉ kkeys kn)) := by
      unfold andB
      rw [tst_ok (isi_int (rd_p (x := .int (k : Int)) rfl))]
      simp only [Rs.bind_ok, if_true]
      exact tst_ok (dnk_ok (rd_p rfl) (rd_o rfl) (val_b rfl))
    have hd : (mks (.inr k :: ms)).map E.p = .p (.int (k : Int)) :: (mks ms).map .p := rfl
    by_cases h : k ∈ kkeys kn
    · rw [decide_eq_false (fun z => z h)] at hc
      obtain ⟨fr', y7, ih⟩ := sr_loop A B C F X ms kn fr (intE k) (by omega) (by omega)
      refine ⟨fr', y7, ?_⟩
      rw [hd, forL_cons (Γ1 := Γ1) (Γ2 := Γ1) rfl (by unfold srB; rw [ifS_f hc]; rfl), ih]
      have : fill kn (.inr k :: ms) fr = fill kn ms fr := by
        conv => lhs; unfold fill
        rw [if_pos h]
      rw [this]
    · rw [decide_eq_true h] at hc
      cases fr with
      | nil => simp at hl
      | cons v fr =>
        simp only [List.length_cons] at hl
        obtain ⟨fr', y7, ih⟩ := sr_loop A B C F X ms (kn ++ [(k, v)]) fr (intE k) (by omega) (by rw [List.length_append, List.length_singleton]; omega)
        refine ⟨fr', y7, ?_⟩
        let Γ2 : G := [A, B, C, F, X, knE (kn ++ [(k, v)]), some (.o (.lst ((txts fr).map .p))), intE k]
        have hb : srB Γ1 = .nx Γ2 := by
          unfold srB
          rw [ifS_t hc]
          unfold dputS
          rw [own_p (pop0_txt (v := v) (l := fr) rfl)]
          simp only [Rs.out]
          rw [rd_o (x := .dct (kD kn)) rfl]
          simp only []
          rw [rd_p (x := .int (k : Int)) rfl]
          show (if (kD kn).length < 1000000 ∧ (isP (D.p (.str v)) = true ∨ (dget (kD kn) (.inl (k : Int))).isNone = true) then Out.nx ([A, B, C, F, X, some (.o (.dct (dput (kD kn) (.inl (k : Int)) (.p (.str v))))), some (.o (.lst ((txts fr).map .p))), intE k]) else .bad) = _
          rw [if_pos ⟨by rw [kD_len]; omega, .inl rfl⟩, kD_put h]
        rw [hd, forL_cons (Γ1 := Γ1) (Γ2 := Γ2) rfl hb, ih]
        have : fill kn (.inr k :: ms) (v :: fr) = fill (kn ++ [(k, v)]) ms fr := by
          conv => lhs; unfold fill
          rw [if_neg h]
        rw [this]
/-- the row, and its parts -/
def srFr (m : Mac) (st : St Str) (w : List Nat) : List Str := freshV m.words st.2 w.length
def srKn (m : Mac) (st : St Str) (w : List Nat) : Kn Str := fill ((nums (sy m.lines m.words w).vs).zip st.2) (sy m.lines m.words w).found (srFr m st w)
def srRow (m : Mac) (st : St Str) (w : List Nat) : List Str := (sy m.lines m.words w).found.map (look (srKn m st w) "")
theorem way_len {m : Mac} (hm : m.Ok) {k : Nat} (hk : k ∈ keys (waysM m)) : (way (waysM m) k).length ≤ 3 := by
  have h1 : (way (waysM m) k).length < (waysM m).length := (waysM_ok hm).ln _ (way_mem hk)
  have h2 := (waysM_ok hm).len
  have h3 := hm.many
  omega
theorem way_pth {m : Mac} (hm : m.Ok) {k : Nat} (hk : k ∈ keys (waysM m)) : Pth m.words.length m.boxes m.lines (way (waysM m) k) k := (waysM_ok hm).pt _ (way_mem hk)
theorem sr_ok {m : Mac} (hm : m.Ok) {st : St Str} (hst : StOk m.words m.boxes st) (hk : st.1 ∈ keys (waysM m)) :
    let w := way (waysM m) st.1
    runS m.lines m.words (0, []) (srRow m st w) = st ∧ runG m.lines m.words (0, []) (srRow m st w) = w ∧ (∀ j, Sum.inr j ∈ (sy m.lines m.words w).found → j ∈ kkeys (srKn m st w)) ∧ (srRow m st w).length = w.length := by
  intro w
  have hp := way_pth hm hk
  have hl : w.length ≤ 3 := way_len hm hk
  have b2 : st.2.length ≤ 2 := hm.bl _ (List.mem_of_getElem? hst.b)
  have wl := hm.wl
  have hf := freshV_ok (ws := m.words) (held := st.2) (n := w.length) (by omega)
  obtain ⟨a1, a2, a3⟩ := short_ok hm.wd hm.l hp (vals := st.2) hst.b hst.n hst.w (fr := srFr m st w) hf.1 (fun f h => ⟨(hf.2.1 f h).1, (hf.2.1 f h).2.1⟩) hf.2.2 ""
  refine ⟨a1, a2, a3, ?_⟩
  unfold srRow
  rw [List.length_map]
  exact (sinv_ok hm.wd hm.l hp).len
theorem short_ex {m : Mac} (hm : m.Ok) (st : St Str) (hk : st.1 ∉ keys (waysM m)) : F_short_row [.p m.p, .p (stP st)] = .ex ⟨"NotOfIt", []⟩ := by
  obtain ⟨Γw, hw⟩ := ways_p hm
  refine fnE_ex ?_
  let Γ1 : G := [some (.p m.p), some (.p (stP st)), dctE encW (waysM m), none, none, none, none, none]
  show b_short_row [some (.p m.p), some (.p (stP st)), none, none, none, none, none, none] = _
  unfold b_short_row
  rw [seqS_nx (Γ1 := Γ1) (asgO (call_o (con_ok (rd_p rfl) rfl) hw) rfl)]
  have hc : tst (e2 dniE (e2 ixD (rd 1) (cE (.int 0))) (rd 2)) Γ1 = .ok Γ1 true := by
    rw [tst_ok (dni_ok (enc := encW) (k := st.1) (w := waysM m) (ix_ok (i := 0) (xs := [nat' st.1, .tup (txts st.2)]) (rd_p rfl) rfl rfl) (rd_o rfl) (val_b rfl)), decide_eq_true hk]
  exact seqS_ex (by rw [ifS_t hc]; rfl)
theorem short_p {m : Mac} (hm : m.Ok) {st : St Str} (hst : StOk m.words m.boxes st) (hk : st.1 ∈ keys (waysM m)) : ∃ Γ, F_short_row [.p m.p, .p (stP st)] = .ok Γ (.p (.tup (txts (srRow m st (way (waysM m) st.1))))) := by
  obtain ⟨Γw, hw⟩ := ways_p hm
  obtain ⟨r1, r2, r3, r4⟩ := sr_ok hm hst hk
  have hp := way_pth hm hk
  have hl := way_len hm hk
  have b2 : st.2.length ≤ 2 := hm.bl _ (List.mem_of_getElem? hst.b)
  have wl := hm.wl
  generalize hwq : way (waysM m) st.1 = w at r1 r2 r3 r4 hp hl ⊢
  obtain ⟨Γm, hmk⟩ := marks_p hm hp (by omega)
  have I := sinv_ok hm.wd hm.l hp
  obtain ⟨Γf, hf⟩ := fresh_p (ws := m.words) (held := st.2) (n := w.length) (by omega)
  have hfo := freshV_ok (ws := m.words) (held := st.2) (n := w.length) (by omega)
  have hkn : srKn m st w = fill ((nums (sy m.lines m.words w).vs).zip st.2) (sy m.lines m.words w).found (srFr m st w) := rfl
  have hrow : srRow m st w = (sy m.lines m.words w).found.map (look (srKn m st w) "") := rfl
  generalize hx : sy m.lines m.words w = x at I hmk hkn hrow r3
  have hvs : mks x.vs = nats (nums x.vs) := mks_nums fun v hv => by
    obtain ⟨j, _, e⟩ := I.vs v hv
    exact ⟨j, e⟩
  have hnl : (nums x.vs).length = x.vs.length := by rw [← nats_len, ← hvs, mks_len]
  have hvl : x.vs.length = st.2.length := by
    have h1 := I.b
    rw [hst.b] at h1
    exact (Option.some_inj.mp h1).symm
  let kn0 : Kn Str := (nums x.vs).zip st.2
  have hk0 : kkeys kn0 = nums x.vs := List.map_fst_zip (by omega)
  have hnn : (nums x.vs).Nodup := by
    have e := nums_eq (ms := x.vs) fun v hv => by
      obtain ⟨j, _, e⟩ := I.vs v hv
      exact ⟨j, e⟩
    have := I.nd
    rw [← e] at this
    exact (List.pairwise_map.mp this).imp fun h e => h (by rw [e])
  let W : Option E := dctE encW (waysM m)
  let Fo : Option E := some (.o (.lst ((mks x.found).map .p)))
  let Fs : Option E := some (.s (.lst ((mks x.found).map .p)))
  let Bx : Option E := some (.p (.tup (mks x.vs)))
  let Fr : Option E := some (.o (.lst ((txts (srFr m st w)).map .p)))
  obtain ⟨fr', y7, hlp⟩ := sr_loop (some (.p m.p)) (some (.p (stP st))) W Fs Bx x.found kn0 (srFr m st w) none (by rw [I.len]; exact hfo.2.2) (by
    have : kn0.length ≤ st.2.length := by show ((nums x.vs).zip st.2).length ≤ _; rw [List.length_zip]; omega
    rw [I.len]; omega)
  rw [show fill kn0 x.found (srFr m st w) = srKn m st w from hkn.symm] at hlp
  let Γ0 : G := [some (.p m.p), some (.p (stP st)), none, none, none, none, none, none]
  let Γ1 : G := [some (.p m.p), some (.p (stP st)), W, none, none, none, none, none]
  let Γ3 : G := [some (.p m.p), some (.p (stP st)), W, Fo, Bx, none, none, none]
  let Γ4 : G := [some (.p m.p), some (.p (stP st)), W, Fo, Bx, knE kn0, none, none]
  let Γ5 : G := [some (.p m.p), some (.p (stP st)), W, Fo, Bx, knE kn0, Fr, none]
  let Γ5' : G := [some (.p m.p), some (.p (stP st)), W, Fs, Bx, knE kn0, Fr, none]
  let Γ6 : G := [some (.p m.p), some (.p (stP st)), W, Fs, Bx, knE (srKn m st w), some (.o (.lst ((txts fr').map .p))), y7]
  let Γ7 : G := [some (.p m.p), some (.p (stP st)), W, Fs, Bx, knE (srKn m st w), some (.o (.lst ((txts fr').map .p))), none]
  refine ⟨Γ7, fnE_p ?_⟩
  show b_short_row Γ0 = _
  unfold b_short_row
  rw [seqS_nx (Γ1 := Γ1) (asgO (call_o (con_ok (rd_p rfl) rfl) hw) rfl)]
  have hs0 : ∀ Γ : G, Γ[1]? = some (some (.p (stP st))) → e2 ixD (rd 1) (cE (.int 0)) Γ = .ok Γ (.p (.int (st.1 : Int))) := fun Γ h => ix_ok (i := 0) (xs := [nat' st.1, .tup (txts st.2)]) (rd_p h) rfl rfl
  have hs1 : ∀ Γ : G, Γ[1]? = some (some (.p (stP st))) → e2 ixD (rd 1) (cE (.int 1)) Γ = .ok Γ (.p (.tup (txts st.2))) := fun Γ h => ix_ok (i := 1) (xs := [nat' st.1, .tup (txts st.2)]) (rd_p h) rfl rfl
  have hc : tst (e2 dniE (e2 ixD (rd 1) (cE (.int 0))) (rd 2)) Γ1 = .ok Γ1 false := by
    rw [tst_ok (dni_ok (enc := encW) (k := st.1) (w := waysM m) (hs0 Γ1 rfl) (rd_o rfl) (val_b rfl)), decide_eq_false (fun z => z hk)]
  rw [seqS_nx (Γ1 := Γ1) (by rw [ifS_f hc]; rfl)]
  have h3 : callN [false, false] F_marks_read (conA (rd 0) (conA (e2 dgetE (rd 2) (e2 ixD (rd 1) (cE (.int 0)))) nilA)) Γ1 = .ok Γ1 (.o (.tup [.lst ((mks x.found).map .p), .p (.tup (mks x.vs))])) := by
    have hd : e2 dgetE (rd 2) (e2 ixD (rd 1) (cE (.int 0))) Γ1 = .ok Γ1 (.p (.tup (nats w))) := by
      have := dget_ok (enc := encW) (w := waysM m) (f := rd 2) (g := e2 ixD (rd 1) (cE (.int 0))) (Γ := Γ1) (Γ1 := Γ1) (Γ2 := Γ1) (e := .b 2) (k := st.1) (rd_o rfl) (hs0 Γ1 rfl) (val_b rfl) hk
      rw [hwq] at this
      exact this
    exact call_o (con_ok (rd_p rfl) (con_ok hd rfl)) hmk
  rw [seqS_nx (Γ1 := Γ3) (asgO h3 rfl)]
  have h4 : e1 dctO (e2 zipO (rd 4) (e2 ixD (rd 1) (cE (.int 1)))) Γ3 = .ok Γ3 (.o (.dct (kD kn0))) := by
    have hz : e2 zipO (rd 4) (e2 ixD (rd 1) (cE (.int 1))) Γ3 = .ok Γ3 (.o (.lst ((zipP (nats (nums x.vs)) (txts st.2)).map .p))) := by
      unfold e2
      simp only [rd_p (Γ := Γ3) (i := 4) (x := .tup (mks x.vs)) rfl, Rs.bind_ok]
      rw [show (rd 1 Γ3).bind (fun Γ1 a => (cE (P.int 1) Γ1).bind fun Γ2 b => ixD Γ2 a b) = .ok Γ3 (.p (.tup (txts st.2))) from hs1 Γ3 rfl]
      show (if (mks x.vs).length = (txts st.2).length then Rs.ok Γ3 (E.o (.lst ((zipP (mks x.vs) (txts st.2)).map .p))) else .bad) = _
      rw [if_pos (by rw [mks_len, txts_len]; exact hvl), hvs]
    unfold e1
    simp only [hz, Rs.bind_ok]
    unfold dctO
    rw [lseq_o]
    show (match prK (zipP (nats (nums x.vs)) (txts st.2)) with | some kvs => Rs.ok Γ3 (E.o (.dct (mergeD [] kvs))) | none => .bad) = _
    rw [prK_zip]
    have := kD_merge kn0 [] (by rw [List.nil_append, hk0]; exact hnn)
    show Rs.ok Γ3 (E.o (.dct (mergeD (kD []) (kD kn0)))) = _
    rw [this]; rfl
  rw [seqS_nx (Γ1 := Γ4) (asgO h4 rfl)]
  have h5 : callN [false, false, false] F_fresh_values (conA (e2 ixD (rd 0) (cE (.int 0))) (conA (e2 ixD (rd 1) (cE (.int 1))) (conA (e1 lenE (rd 3)) nilA))) Γ4 = .ok Γ4 (.o (.lst ((txts (srFr m st w)).map .p))) := by
    have hl3 : e1 lenE (rd 3) Γ4 = .ok Γ4 (.p (.int (w.length : Int))) := by
      unfold e1
      rw [rd_o (x := .lst ((mks x.found).map .p)) rfl]
      simp only [Rs.bind_ok]
      unfold lenE
      rw [slen_b (xs := (mks x.found).map .p) rfl]
      simp only [List.length_map, mks_len, I.len]
    exact call_o (con_ok (ix_ok (i := 0) (xs := [.tup (txts m.words), .tup (nats m.boxes), .tup (nats m.yes), .tup (m.lines.map linP)]) (rd_p rfl) rfl rfl) (con_ok (hs1 Γ4 rfl) (con_ok hl3 rfl))) hf
  rw [seqS_nx (Γ1 := Γ5) (asgO h5 rfl)]
  have hit : sqI (rd 3) Γ5 = .ok Γ5' (.s (.lst ((mks x.found).map .p)), (mks x.found).map .p) := sqI_b (xs := mks x.found) rfl
  rw [seqS_nx (Γ1 := Γ6) (by rw [forS_eq hit]; exact hlp)]
  have hit2 : sqI (rd 3) Γ6 = .ok Γ6 (.s (.lst ((mks x.found).map .p)), x.found.map fun k => E.p (mkP k)) := by
    rw [sqI_s (xs := mks x.found) rfl]
    simp [mks, Function.comp_def]
  have hcm := comp_ok (it := sqI (rd 3)) (ws := [7]) (t := nmT 7) (f := ifE (tst (e1 (isiO "int") (rd 7))) (e2 dgetE (rd 5) (rd 7)) (rd 7)) (fun k : Mk Str => P.str (look (srKn m st w) "" k)) x.found hit2 (by rw [I.len]; omega) fun k hkx => by
    let Γ8 : G := [some (.p m.p), some (.p (stP st)), W, Fs, Bx, knE (srKn m st w), some (.o (.lst ((txts fr').map .p))), some (.p (mkP k))]
    refine ⟨Γ8, Γ8, rfl, own_p ?_, rfl⟩
    cases k with
    | inl a =>
      unfold ifE
      rw [tst_ok (isi_str (f := rd 7) (Γ := Γ8) (Γ1 := Γ8) (i := a) (rd_p rfl))]
      rfl
    | inr j =>
      unfold ifE
      rw [tst_ok (isi_int (f := rd 7) (Γ := Γ8) (Γ1 := Γ8) (i := (j : Int)) (rd_p rfl))]
      simp only [Rs.bind_ok, if_true]
      unfold e2
      simp only [rd_o (Γ := Γ8) (i := 5) (x := .dct (kD (srKn m st w))) rfl, rd_p (Γ := Γ8) (i := 7) (x := .int (j : Int)) rfl, Rs.bind_ok]
      unfold dgetE
      rw [val_b (Γ := Γ8) (i := 5) (d := .dct (kD (srKn m st w))) rfl]
      show (match dget (kD (srKn m st w)) (.inl (j : Int)) with | some (.p x) => Rs.ok Γ8 (E.p x) | _ => .bad) = _
      rw [kD_get, if_pos (r3 j hkx)]
  refine retP (tupO_ok ?_)
  rw [hcm, hrow]
  simp [txts, Function.comp_def, wipeG, Γ6, Γ7]
end Kv.W

set_option Elab.async false
set_option linter.all false
set_option maxRecDepth 100000
set_option maxHeartbeats 4000000
set_option autoImplicit false
/-! the plain law of k46: the law's look at short rows -/
namespace Kv.W
open PySem PySem.Spec L2 Kv M
variable [Tbl]
theorem orB_f {f g : XB} {Γ Γ1 Γ2 : G} (hf : f Γ = .ok Γ1 false) (hg : g Γ1 = .ok Γ2 false) : orB f g Γ = .ok Γ2 false := by
  unfold orB; rw [hf]; simp only [Rs.bind_ok]; exact hg
theorem notB_ok {f : XB} {Γ Γ1 : G} {c : Bool} (hf : f Γ = .ok Γ1 c) : notB f Γ = .ok Γ1 (!c) := by unfold notB; rw [hf]; rfl
theorem ixL_o {f g : X1} {Γ Γ1 Γ2 : G} {v : Str} {l : List Str} (hf : f Γ = .ok Γ1 (.o (.lst ((txts l).map .p)))) (hg : g Γ1 = .ok Γ2 (.p (.str v))) (hv : v ∈ l) : e2r isL (ixO lseq) f g Γ = .ok Γ2 (.p (.int (fix l v : Nat))) := by
  have h1 : isL Γ1 (.o (.lst ((txts l).map .p))) = true := rfl
  unfold e2r
  rw [hf]
  simp only [Rs.bind_ok]
  rw [if_pos h1, hg, Rs.bind_ok]
  exact ixO_txts (lseq_o (txts l)) hv
theorem lsd_ok {enc : List Nat → P} {Γ : G} {i : Nat} {f : Ways} (h : Γ[i]? = some (dctE enc f)) : e1 lsdO (rd i) Γ = .ok Γ (.o (.lst ((nats (keys f)).map .p))) := by
  unfold e1
  rw [rd_o h]
  simp only [Rs.bind_ok]
  unfold lsdO
  rw [val_b h]
  have : ((encD enc f).map fun kv => kP kv.1) = nats (keys f) := by unfold encD keys nats; rw [List.map_map, List.map_map]; rfl
  simp only [this]
theorem stP_fine {st : St Str} (hf : ∀ v ∈ st.2, Fit v) (h1 : st.1 < 1000) : P.fine (stP st) = true := by
  show P.fines [nat' st.1, .tup (txts st.2)] = true
  simp only [P.fines, Bool.and_eq_true]
  exact ⟨decide_eq_true (by omega), txts_fine hf, trivial⟩
theorem stP_dp (st : St Str) : P.dp (stP st) ≤ 2 := by
  have := txts_dps st.2
  show max 0 (max (P.dps (txts st.2) + 1) 0) + 1 ≤ 2
  omega
theorem stP_wt {st : St Str} (hf : ∀ v ∈ st.2, Fit v) : P.wt (stP st) ≤ 12 + st.2.length * 31 := by
  have := txts_wts hf
  show 10 + 1 + (P.wts (txts st.2) + 1 + 0) ≤ _
  omega
theorem rep_st {f : X1} {Γ Γ1 : G} {st : St Str} (hr : f Γ = .ok Γ1 (.p (stP st))) (hf : ∀ v ∈ st.2, Fit v) (h1 : st.1 < 1000) (h2 : st.2.length ≤ 100) : e1 repO f Γ = .ok Γ1 (.p (.str (stP st).py.shown)) := by
  have a := stP_dp st
  have b := stP_wt hf
  exact rep_p hr (stP_fine hf h1) (by omega) (by omega)
noncomputable abbrev srS' : X3 := seqS (dropS (e2r isL appO (rd 6) (own (e2r isL (ixO lseq) (e2 catL (e2 catL (e1 lstO (e2 ixD (rd 0) (cE (.int 0)))) (e1 lstO (e2 ixD (rd 5) (cE (.int 1))))) (lstE (conA (rd 7) nilA))) (rd 7)))))
    (asgS (nmT 5) (e2 ixD (callN [false, false, false] F__law_read (conA (rd 0) (conA (rd 5) (conA (tupE (conA (rd 7) nilA)) nilA)))) (cE (.int 1))))
theorem srS_loop {m : Mac} (hm : m.Ok) (S A B C : Option E) : ∀ (row : List Str) (st : St Str) (acc : List Nat) (x7 : Option E), StOk m.words m.boxes st → acc.length + row.length < 1000 → ∃ y7 : Option E,
    forL (nmT 7) srS' (row.map fun v => .p (.str v)) [some (.p m.p), S, A, B, C, some (.p (stP st)), linE acc, x7] = .nx [some (.p m.p), S, A, B, C, some (.p (stP (runS m.lines m.words st row))), linE (acc ++ runG m.lines m.words st row), y7]
  | [], st, acc, x7, _, _ => ⟨x7, by simp [forL, runS, runG]⟩
  | v :: row, st, acc, x7, hst, hl => by
    simp only [List.length_cons] at hl
    obtain ⟨y7, ih⟩ := srS_loop hm S A B C row (rd1 m.lines m.words st v) (acc ++ [sgn m.words st.2 v]) (some (.p (.str v))) (rd1_ok v hm.l hst).1 (by rw [List.length_append, List.length_singleton]; omega)
    refine ⟨y7, ?_⟩
    have b2 : st.2.length ≤ 2 := hm.bl _ (List.mem_of_getElem? hst.b)
    have wl := hm.wl
    let Γ1 : G := [some (.p m.p), S, A, B, C, some (.p (stP st)), linE acc, some (.p (.str v))]
    let Γ2 : G := [some (.p m.p), S, A, B, C, some (.p (stP st)), linE (acc ++ [sgn m.words st.2 v]), some (.p (.str v))]
    let Γ3 : G := [some (.p m.p), S, A, B, C, some (.p (stP (rd1 m.lines m.words st v))), linE (acc ++ [sgn m.words st.2 v]), some (.p (.str v))]
    obtain ⟨Γr, hr⟩ := read_ok hm hst [v] (by simp)
    have h1 : srS' Γ1 = .nx Γ3 := by
      unfold srS'
      have hx : e2r isL (ixO lseq) (e2 catL (e2 catL (e1 lstO (e2 ixD (rd 0) (cE (.int 0)))) (e1 lstO (e2 ixD (rd 5) (cE (.int 1))))) (lstE (conA (rd 7) nilA))) (rd 7) Γ1 = .ok Γ1 (.p (.int (sgn m.words st.2 v : Nat))) := by
        have a0 : e1 lstO (e2 ixD (rd 0) (cE (.int 0))) Γ1 = .ok Γ1 (.o (.lst ((txts m.words).map .p))) := lst_ok rfl
        have a1 : e1 lstO (e2 ixD (rd 5) (cE (.int 1))) Γ1 = .ok Γ1 (.o (.lst ((txts st.2).map .p))) := lst_ok rfl
        have a2 := cat_ok (xs := txts m.words) (ys := txts st.2) a0 a1 (plst_o _) (plst_o _) (by rw [txts_len, txts_len]; omega)
        have a3 : lstE (conA (rd 7) nilA) Γ1 = .ok Γ1 (.o (.lst ([P.str v].map .p))) := by
          unfold lstE; rw [con_ok (e := .p (.str v)) (es := []) rfl rfl]; simp [gat]
        have a4 := cat_ok (xs := txts m.words ++ txts st.2) (ys := [P.str v]) a2 a3 (plst_o _) (plst_o _) (by rw [List.length_append, txts_len, txts_len]; simp; omega)
        have a5 : txts m.words ++ txts st.2 ++ [P.str v] = txts (things m.words st.2 v) := by simp [things, txts]
        rw [a5] at a4
        exact ixL_o a4 (rd_p rfl) (mem_things ..)
      rw [seqS_nx (Γ1 := Γ2) (by rw [app_ok (Γ := Γ1) (xs := nats acc) rfl hx (by rw [nats_len]; omega), ← nats_snoc]; rfl)]
      have hc := call_p (F := F__law_read) (fl := [false, false, false]) (Γ := Γ2) (Γ1 := Γ2) (g := conA (rd 0) (conA (rd 5) (conA (tupE (conA (rd 7) nilA)) nilA))) (es := [.p m.p, .p (stP st), .p (.tup [.str v])]) rfl hr
      exact asgP (ix_ok (i := 1) hc rfl rfl) rfl
    rw [List.map_cons, forL_cons (Γ1 := Γ1) rfl h1, ih]
    simp [runS, runG]
theorem lenT_st {f : X1} {Γ Γ1 : G} {row : List Str} (h : f Γ = .ok Γ1 (.p (.tup (txts row)))) : e1 lenE f Γ = .ok Γ1 (.p (.int (row.length : Nat))) := by rw [len_tup h, txts_len]
theorem runG_lt {m : Mac} (hm : m.Ok) : ∀ (row : List Str) {st : St Str}, StOk m.words m.boxes st → ∀ n ∈ runG m.lines m.words st row, n < 1000
  | [], _, _, n, h => by cases h
  | v :: row, st, hst, n, h => by
    have b2 : st.2.length ≤ 2 := hm.bl _ (List.mem_of_getElem? hst.b)
    have wl := hm.wl
    rcases List.mem_cons.mp h with h | h
    · have := sgn_lt m.words st.2 v
      omega
    · exact runG_lt hm row (rd1_ok v hm.l hst).1 n h
/-- _the law's look at a short row -/
theorem right_ok {m : Mac} (hm : m.Ok) {st : St Str} (hst : StOk m.words m.boxes st) (hf : ∀ v ∈ st.2, Fit v) : ∃ Γ, F__law_short_right [.p m.p, .p (stP st)] = .ok Γ (.p (.bl true)) := by
  obtain ⟨Γd, hd⟩ := depths_p hm
  obtain ⟨Γw, hw⟩ := ways_p hm
  let Dp : Option E := dctE encN (waysM m)
  let Γ0 : G := [some (.p m.p), some (.p (stP st)), none, none, none, none, none, none]
  let Γ1 : G := [some (.p m.p), some (.p (stP st)), Dp, none, none, none, none, none]
  have hs0 : ∀ Γ : G, Γ[1]? = some (some (.p (stP st))) → e2 ixD (rd 1) (cE (.int 0)) Γ = .ok Γ (.p (.int (st.1 : Int))) := fun Γ h => ix_ok (i := 0) (xs := [nat' st.1, .tup (txts st.2)]) (rd_p h) rfl rfl
  have b2 : st.2.length ≤ 2 := hm.bl _ (List.mem_of_getElem? hst.b)
  have q4 : st.1 < 1000 := by
    have h1 := hst.b
    have h2 := hm.many
    by_cases z : st.1 < m.boxes.length
    · omega
    · rw [List.getElem?_eq_none (by omega)] at h1; cases h1
  by_cases hk : st.1 ∈ keys (waysM m)
  · obtain ⟨Γr, hr⟩ := short_p hm hst hk
    obtain ⟨r1, r2, r3, r4⟩ := sr_ok hm hst hk
    have hl := way_len hm hk
    generalize hwq : way (waysM m) st.1 = w at r1 r2 r3 r4 hr hl
    generalize srRow m st w = row at r1 r2 r4 hr
    let To : Option E := some (.p (.tup [.str "told", .tup (txts row)]))
    let Γ2 : G := [some (.p m.p), some (.p (stP st)), Dp, To, none, none, none, none]
    let Γ3 : G := [some (.p m.p), some (.p (stP st)), Dp, To, dctE encW (waysM m), none, none, none]
    let Γ4 : G := [some (.p m.p), some (.p (stP st)), Dp, To, dctE encW (waysM m), some (.p (stP (0, []))), linE [], none]
    have hst0 : StOk m.words m.boxes (0, []) := st0_ok hm.l.b0
    obtain ⟨y7, hlp⟩ := srS_loop hm (some (.p (stP st))) Dp To (dctE encW (waysM m)) row (0, []) [] none hst0 (by simp; omega)
    rw [r1, r2, List.nil_append] at hlp
    let Γ5 : G := [some (.p m.p), some (.p (stP st)), Dp, To, dctE encW (waysM m), some (.p (stP st)), linE w, y7]
    refine ⟨Γ5, fnE_p ?_⟩
    show b__law_short_right Γ0 = _
    unfold b__law_short_right
    rw [seqS_nx (Γ1 := Γ1) (asgO (call_o (con_ok (rd_p rfl) rfl) hd) rfl)]
    have ht : toldE ["NothingDone", "NotOfIt"] [("NothingDone", "nothing"), ("NotOfIt", "not")] (callN [false, false] F_short_row (conA (rd 0) (conA (rd 1) nilA))) Γ1 = .ok Γ1 (.p (.tup [.str "told", .tup (txts row)])) := by
      unfold toldE
      have : callN [false, false] F_short_row (conA (rd 0) (conA (rd 1) nilA)) (lent Γ1) = .ok (lent Γ1) (.p (.tup (txts row))) := call_p (con_ok (rd_p rfl) (con_ok (rd_p rfl) rfl)) hr
      rw [this]
    rw [seqS_nx (Γ1 := Γ2) (asgP ht rfl)]
    have hc : tst (e2 dniE (e2 ixD (rd 1) (cE (.int 0))) (rd 2)) Γ2 = .ok Γ2 false := by
      rw [tst_ok (dni_ok (enc := encN) (k := st.1) (w := waysM m) (hs0 Γ2 rfl) (rd_o rfl) (val_b rfl)), decide_eq_false (fun z => z hk)]
    rw [seqS_nx (Γ1 := Γ2) (by rw [ifS_f hc]; rfl)]
    have t0 : e2 ixD (rd 3) (cE (.int 0)) Γ2 = .ok Γ2 (.p (.str "told")) := rfl
    have t1 : ∀ Γ : G, Γ[3]? = some To → e2 ixD (rd 3) (cE (.int 1)) Γ = .ok Γ (.p (.tup (txts row))) := fun Γ h => ix_ok (i := 1) (xs := [.str "told", .tup (txts row)]) (rd_p h) rfl rfl
    have hdw : e2 dgetE (rd 2) (e2 ixD (rd 1) (cE (.int 0))) Γ2 = .ok Γ2 (.p (.int (w.length : Int))) := by
      have := dget_ok (enc := encN) (w := waysM m) (f := rd 2) (g := e2 ixD (rd 1) (cE (.int 0))) (Γ := Γ2) (Γ1 := Γ2) (Γ2 := Γ2) (e := .b 2) (k := st.1) (rd_o rfl) (hs0 Γ2 rfl) (val_b rfl) hk
      rw [hwq] at this
      exact this
    have h5 : orB (tst (e2 neE (e2 ixD (rd 3) (cE (.int 0))) (cE (.str "told")))) (orB (notB (tst (e1 (isiO "tuple") (e2 ixD (rd 3) (cE (.int 1)))))) (tst (e2 neE (e1 lenE (e2 ixD (rd 3) (cE (.int 1)))) (e2 dgetE (rd 2) (e2 ixD (rd 1) (cE (.int 0))))))) Γ2 = .ok Γ2 false := by
      refine orB_f (Γ1 := Γ2) ?_ (orB_f (Γ1 := Γ2) ?_ ?_)
      · rw [tst_ok (ne_strs t0 (b := "told") rfl)]; simp
      · have : e1 (isiO "tuple") (e2 ixD (rd 3) (cE (.int 1))) Γ2 = .ok Γ2 (.p (.bl true)) := by
          unfold e1; rw [t1 Γ2 rfl]; rfl
        rw [notB_ok (tst_ok this)]; rfl
      · rw [tst_ok (neI_ok (lenT_st (t1 Γ2 rfl)) hdw), r4]; simp
    rw [seqS_nx (Γ1 := Γ2) (by rw [ifS_f h5]; rfl)]
    obtain ⟨Γq, hq⟩ := read_ok hm hst0 row (by omega)
    rw [r1] at hq
    have h6 : tst (e2 neE (e1 repO (e2 ixD (callN [false, false, false] F__law_read (conA (rd 0) (conA (tupE (conA (cE (.int 0)) (conA (tupE nilA) nilA))) (conA (e2 ixD (rd 3) (cE (.int 1))) nilA)))) (cE (.int 1)))) (e1 repO (rd 1))) Γ2 = .ok Γ2 false := by
      have hcl := call_p (F := F__law_read) (fl := [false, false, false]) (Γ := Γ2) (Γ1 := Γ2) (g := conA (rd 0) (conA (tupE (conA (cE (.int 0)) (conA (tupE nilA) nilA))) (conA (e2 ixD (rd 3) (cE (.int 1))) nilA))) (con_ok (rd_p rfl) (con_ok (e := .p (stP (0, []))) rfl (con_ok (t1 Γ2 rfl) rfl))) hq
      rw [tst_ok (ne_strs (rep_st (ix_ok (i := 1) hcl rfl rfl) hf q4 (by omega)) (rep_st (rd_p rfl) hf q4 (by omega)))]
      simp
    rw [seqS_nx (Γ1 := Γ2) (by rw [ifS_f h6]; rfl)]
    rw [seqS_nx (Γ1 := Γ3) (asgO (call_o (con_ok (rd_p rfl) rfl) hw) rfl)]
    have hk1000 : ∀ n ∈ keys (waysM m), n < 1000 := fun n hn => by
      have := (waysM_ok hm).lt n hn
      have := hm.many
      omega
    have hdw3 : e2 dgetE (rd 2) (e2 ixD (rd 1) (cE (.int 0))) Γ3 = .ok Γ3 (.p (.int (w.length : Int))) := by
      have := dget_ok (enc := encN) (w := waysM m) (f := rd 2) (g := e2 ixD (rd 1) (cE (.int 0))) (Γ := Γ3) (Γ1 := Γ3) (Γ2 := Γ3) (e := .b 2) (k := st.1) (rd_o rfl) (hs0 Γ3 rfl) (val_b rfl) hk
      rw [hwq] at this
      exact this
    have hww : ∀ Γ : G, Γ[4]? = some (dctE encW (waysM m)) → Γ[1]? = some (some (.p (stP st))) → e2 dgetE (rd 4) (e2 ixD (rd 1) (cE (.int 0))) Γ = .ok Γ (.p (.tup (nats w))) := fun Γ h1 h2 => by
      have := dget_ok (enc := encW) (w := waysM m) (f := rd 4) (g := e2 ixD (rd 1) (cE (.int 0))) (Γ := Γ) (Γ1 := Γ) (Γ2 := Γ) (e := .b 4) (k := st.1) (rd_o h1) (hs0 Γ h2) (val_b h1) hk
      rw [hwq] at this
      exact this
    have h7 : orB (tst (e2 neE (e1 lsdO (rd 4)) (e1 lsdO (rd 2)))) (tst (e2 neE (e1 lenE (e2 dgetE (rd 4) (e2 ixD (rd 1) (cE (.int 0))))) (e2 dgetE (rd 2) (e2 ixD (rd 1) (cE (.int 0)))))) Γ3 = .ok Γ3 false := by
      refine orB_f (Γ1 := Γ3) ?_ ?_
      · rw [tst_ok (ne_lsts (xs := nats (keys (waysM m))) (ys := nats (keys (waysM m))) (lsd_ok (enc := encW) rfl) (lsd_ok (enc := encN) rfl) rfl rfl (nats_fine hk1000) (by have := nats_dps (keys (waysM m)); omega) (nats_fine hk1000) (by have := nats_dps (keys (waysM m)); omega)), P.eqvs_refl]; rfl
      · rw [tst_ok (neI_ok (len_tup (hww Γ3 rfl rfl)) hdw3), nats_len]; simp
    rw [seqS_nx (Γ1 := Γ3) (by rw [ifS_f h7]; rfl)]
    rw [seqS_nx (Γ1 := Γ4) (par_ok (Γ1 := Γ3) (Γ2 := Γ3) (a := .p (stP (0, []))) (b := .o (.lst [])) (own_p rfl) (own_o rfl))]
    have hit : sqI (e2 ixD (rd 3) (cE (.int 1))) Γ4 = .ok Γ4 (.p (.tup (txts row)), row.map fun v => .p (.str v)) := by
      rw [sqI_tup (t1 Γ4 rfl)]; simp [txts, Function.comp_def]
    rw [seqS_nx (Γ1 := Γ5) (by rw [forS_eq hit]; exact hlp)]
    have hw1000 : ∀ n ∈ w, n < 1000 := by
      intro n hn
      rw [← r2] at hn
      exact runG_lt hm row hst0 n hn
    refine retP ?_
    have := eq_tups (f := e1 tupO (rd 6)) (g := e2 dgetE (rd 4) (e2 ixD (rd 1) (cE (.int 0)))) (Γ := Γ5) (Γ1 := Γ5) (Γ2 := Γ5) (xs := nats w) (ys := nats w) (tupO_b rfl) (hww Γ5 rfl rfl) (nats_fine hw1000) (by have := nats_dps w; omega) (nats_fine hw1000) (by have := nats_dps w; omega)
    rw [this, P.eqvs_refl]
  · have hr := short_ex hm st hk
    let To : Option E := some (.p (.tup [.str "raised", .str "not"]))
    let Γ2 : G := [some (.p m.p), some (.p (stP st)), Dp, To, none, none, none, none]
    refine ⟨Γ2, fnE_p ?_⟩
    show b__law_short_right Γ0 = _
    unfold b__law_short_right
    rw [seqS_nx (Γ1 := Γ1) (asgO (call_o (con_ok (rd_p rfl) rfl) hd) rfl)]
    have ht : toldE ["NothingDone", "NotOfIt"] [("NothingDone", "nothing"), ("NotOfIt", "not")] (callN [false, false] F_short_row (conA (rd 0) (conA (rd 1) nilA))) Γ1 = .ok Γ1 (.p (.tup [.str "raised", .str "not"])) := by
      unfold toldE
      have : callN [false, false] F_short_row (conA (rd 0) (conA (rd 1) nilA)) (lent Γ1) = .ex ⟨"NotOfIt", []⟩ := call_ex (con_ok (rd_p rfl) (con_ok (rd_p rfl) rfl)) hr
      rw [this]
      have h1 : (⟨"NotOfIt", []⟩ : Exn).cls ∈ (["NothingDone", "NotOfIt"] : List Str) := by decide +kernel
      have h2 : toldR [("NothingDone", "nothing"), ("NotOfIt", "not")] ⟨"NotOfIt", []⟩ = some (.tup [.str "raised", .str "not"]) := by
        unfold toldR
        have : ([(("NothingDone" : Str), ("nothing" : Str)), ("NotOfIt", "not")].find? fun q => decide (q.1 = (⟨"NotOfIt", []⟩ : Exn).cls)) = some (("NotOfIt" : Str), ("not" : Str)) := by decide +kernel
        simp only [this]
        rfl
      simp only [h1, h2, if_true]
    rw [seqS_nx (Γ1 := Γ2) (asgP ht rfl)]
    have hc : tst (e2 dniE (e2 ixD (rd 1) (cE (.int 0))) (rd 2)) Γ2 = .ok Γ2 true := by
      rw [tst_ok (dni_ok (enc := encN) (k := st.1) (w := waysM m) (hs0 Γ2 rfl) (rd_o rfl) (val_b rfl)), decide_eq_true hk]
    refine seqS_rt ?_
    rw [ifS_t hc]
    refine retP ?_
    have := eq_tups (f := rd 3) (g := tupE (conA (cE (.str "raised")) (conA (cE (.str "not")) nilA))) (Γ := Γ2) (Γ1 := Γ2) (Γ2 := Γ2) (xs := [.str "raised", .str "not"]) (ys := [.str "raised", .str "not"]) (rd_p rfl) rfl (by decide +kernel) (by decide) (by decide +kernel) (by decide)
    rw [this, P.eqvs_refl]
end Kv.W

set_option Elab.async false
set_option linter.all false
set_option maxRecDepth 100000
set_option maxHeartbeats 4000000
set_option autoImplicit false
/-! the plain law of k46: the drawn machine -/
namespace Kv.W
open PySem PySem.Spec L2 Kv M
variable [Tbl]
/-- a draw -/
theorem pickN {Γ : G} {d : D} {many : Nat} {f : X1} (hd : IsSrc d) (h0 : Γ[0]? = some (some (.o d))) (hf : f Γ = .ok Γ (.p (.int (many : Int)))) (hm : many < 1000000) :
    ∃ (d' : D) (n : Nat), IsSrc d' ∧ n < max 1 many ∧ callN [true, false] F__law_pick (conA (rd 0) (conA f nilA)) Γ = .ok (Γ.set 0 (some (.o d'))) (.p (.int (n : Int))) := by
  obtain ⟨d', r, h1, h2, h3, h4⟩ := call_pick (i := 0) hd h0 h0 hf (by omega)
  refine ⟨d', r.toNat, h1, by omega, ?_⟩
  rw [h4]
  have : ((r.toNat : Nat) : Int) = r := by omega
  rw [this]
/-- a call whose changed argument comes back, its value a new list -/
theorem call1o {F : FnS} {Γ Γ1 : G} {i : Nat} {d d' : D} {e : E} {f : X1} {y : D} {Γf : G} (h0 : Γ1[i]? = some (some (.o d))) (h0' : Γ[i]? = some (some (.o d))) (hf : f Γ = .ok Γ1 e) (he : ∀ j, e ≠ .b j) (hF : F [.o d, e] = .ok (some (.o d') :: Γf) (.o y)) :
    callN [true, false] F (conA (rd i) (conA f nilA)) Γ = .ok (Γ1.set i (some (.o d'))) (.o y) := by
  have hb : brw (Γ1.set i none) [.o d, e] = some [.o d, e] := by
    cases e with
    | b j => exact absurd rfl (he j)
    | _ => rfl
  simp [callN, conA, rd, h0', hf, nilA, callE, takeA, h0, hb, hF, outsA, backA]
/-- a comprehension whose members are drawn -/
theorem lcL_src {w : Nat} {f : X1} {R0 : G} {α : Type} {ι : α → E} (Q : α → Nat → Prop) : ∀ (items : List α) (d : D) (R : G) (acc : List Nat), IsSrc d → R.set w none = R0 → acc.length + items.length ≤ 1000000 →
    (∀ e ∈ items, ∀ d, IsSrc d → ∃ d' n, IsSrc d' ∧ Q e n ∧ own f (some (.o d) :: R0.set w (some (ι e))) = .ok (some (.o d') :: R0.set w (some (ι e))) (.p (.int (n : Nat)))) →
    ∃ (d' : D) (ns : List Nat) (R' : G), IsSrc d' ∧ ns.length = items.length ∧ (∀ n ∈ ns, ∃ e ∈ items, Q e n) ∧ R'.set w none = R0 ∧
      lcL [w + 1] (nmT (w + 1)) yesB f (items.map ι) (some (.o d) :: R) ((nats acc).map .p) = .ok (some (.o d') :: R') ((nats (acc ++ ns)).map .p)
  | [], d, R, acc, hd, hR, _, _ => ⟨d, [], R, hd, rfl, fun n h => (by cases h), hR, by rw [List.append_nil]; rfl⟩
  | e :: r, d, R, acc, hd, hR, hl, h => by
    obtain ⟨d1, n, a1, a2, a3⟩ := h e List.mem_cons_self d hd
    have hR1 : (R0.set w (some (ι e))).set w none = R0 := by rw [List.set_set, ← hR, List.set_set]
    obtain ⟨d2, ns, R', b1, b2, b3, b4, b5⟩ := lcL_src Q r d1 (R0.set w (some (ι e))) (acc ++ [n]) a1 hR1 (by simp at hl ⊢; omega) fun e he => h e (List.mem_cons_of_mem _ he)
    refine ⟨d2, n :: ns, R', b1, by simp [b2], ?_, b4, ?_⟩
    · intro k hk
      rcases List.mem_cons.mp hk with rfl | hk
      · exact ⟨e, List.mem_cons_self, a2⟩
      · obtain ⟨e', he', q⟩ := b3 k hk
        exact ⟨e', List.mem_cons_of_mem _ he', q⟩
    · have ht : nmT (w + 1) (wipeG (some (.o d) :: R) [w + 1]) (ι e) = some (some (.o d) :: R0.set w (some (ι e))) := by
        show some (((some (E.o d) :: R).set (w + 1) none).set (w + 1) (some (ι e))) = _
        rw [List.set_cons_succ, List.set_cons_succ, hR]
      rw [List.map_cons, lcL_cons (d := .p (.int (n : Nat))) ht rfl a3 rfl (by rw [List.length_map, nats_len]; simp at hl; omega)]
      have e3 : (nats acc).map D.p ++ [D.p (.int (n : Nat))] = (nats (acc ++ [n])).map D.p := by rw [nats_snoc]; simp
      rw [e3, b5]
      simp
theorem comp_src {w : Nat} {it : XI} {f : X1} {R R0 Γ0 : G} {d : D} {ce : E} {α : Type} {ι : α → E} (Q : α → Nat → Prop) (items : List α) (hd : IsSrc d) (h1 : it Γ0 = .ok (some (.o d) :: R) (ce, items.map ι)) (hR : R.set w none = R0) (hl : items.length ≤ 1000000)
    (h : ∀ e ∈ items, ∀ d, IsSrc d → ∃ d' n, IsSrc d' ∧ Q e n ∧ own f (some (.o d) :: R0.set w (some (ι e))) = .ok (some (.o d') :: R0.set w (some (ι e))) (.p (.int (n : Nat)))) :
    ∃ (d' : D) (ns : List Nat), IsSrc d' ∧ ns.length = items.length ∧ (∀ n ∈ ns, ∃ e ∈ items, Q e n) ∧ lcE it [w + 1] (nmT (w + 1)) yesB f Γ0 = .ok (some (.o d') :: R0) (.o (.lst ((nats ns).map .p))) := by
  obtain ⟨d', ns, R', a1, a2, a3, a4, a5⟩ := lcL_src Q items d R [] hd hR (by simpa using hl) h
  refine ⟨d', ns, a1, a2, a3, ?_⟩
  rw [lcE_ok h1 a5, List.nil_append]
  show Rs.ok ((some (E.o d') :: R').set (w + 1) none) _ = _
  rw [List.set_cons_succ, a4]
/-- .. drawn whether they stay -/
theorem lcL_srcF {w : Nat} {c : XB} {f : X1} {R0 : G} : ∀ (items : List Nat) (d : D) (R : G) (acc : List Nat), IsSrc d → R.set w none = R0 → acc.length + items.length ≤ 1000000 →
    (∀ e ∈ items, ∀ d, IsSrc d → ∃ d' b, IsSrc d' ∧ c (some (.o d) :: R0.set w (intE e)) = .ok (some (.o d') :: R0.set w (intE e)) b ∧ own f (some (.o d') :: R0.set w (intE e)) = .ok (some (.o d') :: R0.set w (intE e)) (.p (.int (e : Nat)))) →
    ∃ (d' : D) (ns : List Nat) (R' : G), IsSrc d' ∧ ns.length ≤ items.length ∧ (∀ n ∈ ns, n ∈ items) ∧ R'.set w none = R0 ∧
      lcL [w + 1] (nmT (w + 1)) c f (items.map fun n : Nat => E.p (.int (n : Int))) (some (.o d) :: R) ((nats acc).map .p) = .ok (some (.o d') :: R') ((nats (acc ++ ns)).map .p)
  | [], d, R, acc, hd, hR, _, _ => ⟨d, [], R, hd, Nat.le_refl _, fun n h => (by cases h), hR, by rw [List.append_nil]; rfl⟩
  | e :: r, d, R, acc, hd, hR, hl, h => by
    obtain ⟨d1, b, a1, a2, a3⟩ := h e List.mem_cons_self d hd
    have hR1 : (R0.set w (intE e)).set w none = R0 := by rw [List.set_set, ← hR, List.set_set]
    have ht : nmT (w + 1) (wipeG (some (.o d) :: R) [w + 1]) (.p (.int (e : Int))) = some (some (.o d) :: R0.set w (intE e)) := by
      show some (((some (E.o d) :: R).set (w + 1) none).set (w + 1) (intE e)) = _
      rw [List.set_cons_succ, List.set_cons_succ, hR]
    cases b with
    | true =>
      obtain ⟨d2, ns, R', b1, b2, b3, b4, b5⟩ := lcL_srcF r d1 (R0.set w (intE e)) (acc ++ [e]) a1 hR1 (by simp at hl ⊢; omega) fun e he => h e (List.mem_cons_of_mem _ he)
      refine ⟨d2, e :: ns, R', b1, by simp; omega, ?_, b4, ?_⟩
      · intro k hk
        rcases List.mem_cons.mp hk with rfl | hk
        · exact List.mem_cons_self
        · exact List.mem_cons_of_mem _ (b3 k hk)
      · rw [List.map_cons, lcL_cons (d := .p (.int (e : Nat))) ht a2 a3 rfl (by rw [List.length_map, nats_len]; simp at hl; omega)]
        have e3 : (nats acc).map D.p ++ [D.p (.int (e : Nat))] = (nats (acc ++ [e])).map D.p := by rw [nats_snoc]; simp
        rw [e3, b5]
        simp
    | false =>
      obtain ⟨d2, ns, R', b1, b2, b3, b4, b5⟩ := lcL_srcF r d1 (R0.set w (intE e)) acc a1 hR1 (by simp at hl ⊢; omega) fun e he => h e (List.mem_cons_of_mem _ he)
      refine ⟨d2, ns, R', b1, by simp; omega, fun n hn => List.mem_cons_of_mem _ (b3 n hn), b4, ?_⟩
      rw [List.map_cons, lcL_skip ht a2, b5]
theorem perm_map {α β : Type} (f : α → β) : ∀ {ys : List β} {zs : List β}, ys.Perm zs → ∀ l : List α, zs = l.map f → ∃ l' : List α, ys = l'.map f ∧ l'.Perm l := by
  intro ys zs h
  induction h with
  | nil =>
    intro l e
    have : l = [] := by cases l with
      | nil => rfl
      | cons _ _ => cases e
    subst this
    exact ⟨[], rfl, .refl _⟩
  | cons x h ih =>
    intro l e
    cases l with
    | nil => cases e
    | cons a l =>
      rw [List.map_cons] at e
      obtain ⟨l', e1, p⟩ := ih l (List.cons.inj e).2
      exact ⟨a :: l', by rw [List.map_cons, ← e1, (List.cons.inj e).1], p.cons a⟩
  | swap x y l0 =>
    intro l e
    match l, e with
    | a :: b :: l, e =>
      simp only [List.map_cons, List.cons.injEq] at e
      exact ⟨b :: a :: l, by rw [List.map_cons, List.map_cons, ← e.1, ← e.2.1, ← e.2.2], List.Perm.swap a b l⟩
  | trans h1 h2 ih1 ih2 =>
    intro l e
    obtain ⟨l1, e1, p1⟩ := ih2 l e
    obtain ⟨l2, e2, p2⟩ := ih1 l1 e1
    exact ⟨l2, e2, p2.trans p1⟩
theorem ixB_ok {Γ : G} {i k b : Nat} {B : List Nat} {g : X1} (h : Γ[i]? = some (linE B)) (hg : g Γ = .ok Γ (.p (.int (k : Int)))) (hb : B[k]? = some b) : e2 ixD (rd i) g Γ = .ok Γ (.p (.int (b : Int))) := by
  unfold e2
  simp only [rd_o h, hg, Rs.bind_ok]
  exact ixD_seq (.inr (val_b h)) (by unfold nats; rw [List.getElem?_map, hb]; rfl)
theorem rgN {f : X1} {Γ Γ1 : G} {n : Nat} (h : f Γ = .ok Γ1 (.p (.int (n : Int)))) (hn : n < 1000000) : rgI1 f Γ = .ok Γ1 (.p .non, (List.range n).map fun k : Nat => E.p (.int (k : Int))) := by
  rw [rgI1_ok h (by omega) (by omega), Int.toNat_natCast]
  unfold rgE
  simp
theorem rgS_nat {a b : Nat} (ha : a < 1000000) (hb : b < 1000000) : RgS (a : Int) (b : Int) :=
  ⟨⟨Int.ofNat_lt.mpr ha, Int.lt_of_lt_of_le (by decide) (Int.natCast_nonneg _)⟩, Int.ofNat_lt.mpr hb, Int.lt_of_lt_of_le (by decide) (Int.natCast_nonneg _)⟩
theorem lrE2_ok {f g : X1} {Γ : G} {i j : Int} (hf : f Γ = .ok Γ (.p (.int i))) (hg : g Γ = .ok Γ (.p (.int j))) (h : RgS i j) : lrE2 f g Γ = .ok Γ (.o (.lst (rgD i j))) := by
  unfold lrE2
  simp only [hf, hg, Rs.bind_ok]
  exact if_pos h
theorem rgD_nat (a b : Nat) : rgD (a : Int) (b : Int) = (nats (List.range' a (b - a))).map .p := by
  unfold rgD nats
  rw [List.map_map, List.range'_eq_map_range, List.map_map]
  have : ((b : Int) - (a : Int)).toNat = b - a := by omega
  rw [this]
  refine List.map_congr_left fun k _ => ?_
  simp [Function.comp_def]
theorem lr_ok {f g : X1} {Γ : G} {a b : Nat} (hf : f Γ = .ok Γ (.p (.int (a : Int)))) (hg : g Γ = .ok Γ (.p (.int (b : Int)))) (ha : a < 1000000) (hb : b < 1000000) : lrE2 f g Γ = .ok Γ (.o (.lst ((nats (List.range' a (b - a))).map .p))) := by
  rw [lrE2_ok hf hg (rgS_nat ha hb), rgD_nat]
/-- the first members of a new list -/
theorem slN {f g : X1} {Γ Γ1 Γ2 : G} {xs : List P} {n : Nat} (hf : f Γ = .ok Γ1 (.o (.lst (xs.map .p)))) (hg : g Γ1 = .ok Γ2 (.p (.int (n : Int)))) : slE f noP (soP g) Γ = .ok Γ2 (.o (.lst ((xs.take n).map .p))) := by
  unfold slE
  simp only [hf, Rs.bind_ok, noP, soP, hg]
  have hv : val Γ2 (.o (.lst (xs.map .p))) = some (.lst (xs.map .p)) := rfl
  simp only [hv, unP_map]
  have hcut : cut xs none (some (n : Int)) = xs.take n := by
    unfold cut
    have h1 : ∀ k, HT.sIx k 0 none = 0 := fun k => rfl
    have h2 : ∀ k : Nat, HT.sIx k k (some (n : Int)) = min n k := fun k => by
      unfold HT.sIx
      simp
      omega
    rw [h1, h2, List.drop_zero, Nat.sub_zero]
    by_cases hz : n ≤ xs.length
    · rw [Nat.min_eq_left hz]
    · rw [Nat.min_eq_right (by omega), List.take_length, List.take_of_length_le (by omega)]
  rw [hcut]
end Kv.W

set_option Elab.async false
set_option linter.all false
set_option maxRecDepth 100000
set_option maxHeartbeats 4000000
set_option autoImplicit false
/-! the plain law of k46: the drawn machine, entry by entry -/
namespace Kv.W
open PySem PySem.Spec L2 Kv M
variable [Tbl]
noncomputable abbrev entB : X3 := seqS (asgS (nmT 10) (e2 addI (e2 addI (rd 3) (e2 ixD (rd 4) (rd 7))) (e1 intO (e2 eqE (rd 9) (e2 addI (rd 3) (e2 ixD (rd 4) (rd 7)))))))
    (seqS (asgS (nmT 11) (lcE (rgI1 (rd 2)) [15] (nmT 15) (tst (e2 leI (e2 ixD (rd 4) (rd 15)) (e2 subI (rd 10) (rd 3)))) (rd 15)))
    (seqS (asgS (nmT 12) (callN [true, false] F__law_of (conA (rd 0) (conA (rd 11) nilA))))
    (seqS (asgS (nmT 13) (e1 tupO (slE (callN [true, false] F__law_mixed (conA (rd 0) (conA (lrE2 (rd 3) (rd 10)) nilA))) noP (soP (e2 ixD (rd 4) (rd 12))))))
    (seqS (asgS (nmT 14) (e1 tupO (lcE (rgI1 (ifE (tst (e2 gtI (rd 10) (cE (.int 0)))) (callN [true, false] F__law_pick (conA (rd 0) (conA (cE (.int 3)) nilA))) (cE (.int 0)))) [6] (nmT 6) yesB (callN [true, false] F__law_pick (conA (rd 0) (conA (rd 10) nilA))))))
    (dropS (e2r isL appO (rd 8) (own (tupE (conA (rd 14) (conA (rd 12) (conA (rd 13) nilA)))))))))))
abbrev lstP (l : List P) : Option E := some (.o (.lst (l.map .p)))
/-- the slots while a machine is drawn -/
abbrev macG (d : D) (ws : List Str) (B : List Nat) (Ls : List P) (x7 x8 x9 x10 x11 x12 x13 x14 : Option E) : G :=
  [some (.o d), some (.p (.tup (txts ws))), intE B.length, intE ws.length, linE B, lstP Ls, none, x7, x8, x9, x10, x11, x12, x13, x14, none, none]
theorem leI_ok {f g : X1} {Γ Γ1 Γ2 : G} {a b : Int} (hf : f Γ = .ok Γ1 (.p (.int a))) (hg : g Γ1 = .ok Γ2 (.p (.int b))) : e2 leI f g Γ = .ok Γ2 (.p (.bl (decide (a ≤ b)))) := by
  unfold e2; simp only [hf, hg, Rs.bind_ok]; rfl
theorem gtI_ok {f g : X1} {Γ Γ1 Γ2 : G} {a b : Int} (hf : f Γ = .ok Γ1 (.p (.int a))) (hg : g Γ1 = .ok Γ2 (.p (.int b))) : e2 gtI f g Γ = .ok Γ2 (.p (.bl (decide (b < a)))) := by
  unfold e2; simp only [hf, hg, Rs.bind_ok]; rfl
theorem sub_ok {f g : X1} {Γ Γ1 Γ2 : G} {a b : Int} (hf : f Γ = .ok Γ1 (.p (.int a))) (hg : g Γ1 = .ok Γ2 (.p (.int b))) : e2 subI f g Γ = .ok Γ2 (.p (.int (a - b))) := by
  unfold e2; simp only [hf, hg, Rs.bind_ok]; rfl
theorem entB_ok {d : D} (hd : IsSrc d) {ws : List Str} {B : List Nat} {i b s : Nat} (hw : ws.length ≤ 2) (hB : B.length ≤ 4) (hb : B[i]? = some b) (hb2 : ∀ b ∈ B, b ≤ 2) (h0 : B[0]? = some 0) (hs : s < ws.length + b + 1) (Ls : List P) (acc : List Ent) (hl : acc.length < 1000) (x10 x11 x12 x13 x14 : Option E) :
    ∃ (d' : D) (e : Ent) (y10 y11 y12 y13 y14 : Option E), IsSrc d' ∧ EntOk ws.length B b s e ∧
      entB (macG d ws B Ls (intE i) (lstP (acc.map entP)) (intE s) x10 x11 x12 x13 x14) = .nx (macG d' ws B Ls (intE i) (lstP ((acc ++ [e]).map entP)) (intE s) y10 y11 y12 y13 y14) := by
  have hb' : b ≤ 2 := hb2 _ (List.mem_of_getElem? hb)
  obtain ⟨hd', hhd⟩ : ∃ h, h = hand ws.length b s := ⟨_, rfl⟩
  have hhl : hd' ≤ ws.length + b + 1 := by rw [hhd]; exact hand_le ..
  have hhg : ws.length + b ≤ hd' := by rw [hhd]; unfold hand; omega
  let L8 := lstP (acc.map entP)
  let Γ0 : G := macG d ws B Ls (intE i) L8 (intE s) x10 x11 x12 x13 x14
  let Γ1 : G := macG d ws B Ls (intE i) L8 (intE s) (intE hd') x11 x12 x13 x14
  let fits : List Nat := (List.range B.length).filter fun k => decide (B.getD k 0 ≤ hd' - ws.length)
  have hfits : ∀ k ∈ fits, ∃ bk, B[k]? = some bk ∧ bk ≤ hd' - ws.length := fun k hk => by
    have hk := List.mem_filter.mp hk
    have h1 := List.mem_range.mp hk.1
    have h2 : B[k]? = some B[k] := List.getElem?_eq_getElem h1
    have h3 := of_decide_eq_true hk.2
    rw [List.getD_eq_getElem?_getD, h2, Option.getD_some] at h3
    exact ⟨_, h2, h3⟩
  have hBpos : 0 < B.length := by
    by_cases z : 0 < B.length
    · exact z
    · rw [List.getElem?_eq_none (by omega)] at h0; cases h0
  have hne : fits ≠ [] := by
    have : 0 ∈ fits := by
      refine List.mem_filter.mpr ⟨List.mem_range.mpr hBpos, ?_⟩
      rw [List.getD_eq_getElem?_getD, h0]
      exact decide_eq_true (Nat.zero_le _)
    exact List.ne_nil_of_mem this
  have hfl : fits.length ≤ 4 := by
    have := List.length_filter_le (fun k => decide (B.getD k 0 ≤ hd' - ws.length)) (List.range B.length)
    rw [List.length_range] at this
    exact Nat.le_trans this hB
  let Γ2 : G := macG d ws B Ls (intE i) L8 (intE s) (intE hd') (linE fits) x12 x13 x14
  have hbi : ∀ Γ : G, Γ[4]? = some (linE B) → Γ[7]? = some (intE i) → e2 ixD (rd 4) (rd 7) Γ = .ok Γ (.p (.int (b : Int))) := fun Γ h1 h2 => ixB_ok h1 (rd_p h2) hb
  have h1 : e2 addI (e2 addI (rd 3) (e2 ixD (rd 4) (rd 7))) (e1 intO (e2 eqE (rd 9) (e2 addI (rd 3) (e2 ixD (rd 4) (rd 7))))) Γ0 = .ok Γ0 (.p (.int (hd' : Int))) := by
    have a1 := add_ok (f := rd 3) (a := (ws.length : Int)) (rd_p (Γ := Γ0) rfl) (hbi Γ0 rfl rfl)
    rw [add_ok a1 (intO_bl (eqI_ok (a := (s : Int)) (rd_p rfl) a1))]
    have : ((s : Int) = (ws.length : Int) + (b : Int)) ↔ s = ws.length + b := by omega
    have e : ((hand ws.length b s : Nat) : Int) = (ws.length : Int) + (b : Int) + (if s = ws.length + b then 1 else 0) := by
      unfold hand; split <;> simp
    rw [hhd, e]
    simp only [decide_eq_true_eq, this]
  have h2 : lcE (rgI1 (rd 2)) [15] (nmT 15) (tst (e2 leI (e2 ixD (rd 4) (rd 15)) (e2 subI (rd 10) (rd 3)))) (rd 15) Γ1 = .ok Γ1 (.o (.lst ((nats fits).map .p))) := by
    have hit : rgI1 (rd 2) Γ1 = .ok Γ1 (.p .non, (List.range B.length).map fun k : Nat => E.p (.int (k : Int))) := rgN (rd_p rfl) (by omega)
    have := compf_ok (it := rgI1 (rd 2)) (ws := [15]) (t := nmT 15) (c := tst (e2 leI (e2 ixD (rd 4) (rd 15)) (e2 subI (rd 10) (rd 3)))) (f := rd 15) (Γ := Γ1) (fun k : Nat => decide (B.getD k 0 ≤ hd' - ws.length)) (fun k : Nat => P.int (k : Int)) (List.range B.length) hit (by simp; omega) fun k hk => by
      have hk := List.mem_range.mp hk
      have hBk : B[k]? = some (B.getD k 0) := by rw [List.getD_eq_getElem?_getD, List.getElem?_eq_getElem hk]; rfl
      let Γ' : G := [some (.o d), some (.p (.tup (txts ws))), intE B.length, intE ws.length, linE B, lstP Ls, none, intE i, L8, intE s, intE hd', x11, x12, x13, x14, intE k, none]
      refine ⟨Γ', Γ', rfl, ?_, rfl, fun _ => ⟨Γ', own_p (rd_p rfl), rfl⟩⟩
      rw [tst_ok (leI_ok (ixB_ok (B := B) (b := B.getD k 0) rfl (rd_p (x := .int (k : Int)) rfl) hBk) (sub_ok (a := (hd' : Int)) (b := (ws.length : Int)) (rd_p rfl) (rd_p rfl)))]
      have hq : (decide ((B.getD k 0 : Int) ≤ (hd' : Int) - (ws.length : Int))) = decide (B.getD k 0 ≤ hd' - ws.length) := by
        rw [decide_eq_decide]; omega
      rw [hq]
    exact this
  obtain ⟨d1, xto, Γo, hd1, hxto, ho⟩ := of_ok (d := d) (e := .s (.lst ((nats fits).map .p))) (xs := nats fits) hd (.s _) (by unfold nats; simpa using hne) (by rw [nats_len]; omega)
  obtain ⟨to, hto, rfl⟩ := List.mem_map.mp hxto
  obtain ⟨bt, hbt, hbt2⟩ := hfits to hto
  have h3 : callN [true, false] F__law_of (conA (rd 0) (conA (rd 11) nilA)) Γ2 = .ok (Γ2.set 0 (some (.o d1))) (.p (.int (to : Int))) := call1b (dl := .lst ((nats fits).map .p)) rfl rfl (by decide) ho
  let Γ3 : G := macG d1 ws B Ls (intE i) L8 (intE s) (intE hd') (linE fits) (intE to) x13 x14
  have hlr : lrE2 (rd 3) (rd 10) Γ3 = .ok Γ3 (.o (.lst ((nats (List.range' ws.length (hd' - ws.length))).map .p))) := lr_ok (rd_p rfl) (rd_p rfl) (by omega) (by omega)
  obtain ⟨d2, ys, Γm, hd2, hperm, hmx⟩ := mixed_ok (d := d1) (e := .o (.lst ((nats (List.range' ws.length (hd' - ws.length))).map .p))) (xs := nats (List.range' ws.length (hd' - ws.length))) hd1 (.o _) (by rw [nats_len, List.length_range']; omega)
  obtain ⟨l', rfl, hp'⟩ := perm_map (fun n : Nat => P.int (n : Int)) hperm (List.range' ws.length (hd' - ws.length)) rfl
  have hl'len : l'.length = hd' - ws.length := by rw [hp'.length_eq, List.length_range']
  have hl'nd : l'.Nodup := hp'.nodup_iff.mpr List.nodup_range'
  have hl'm : ∀ f ∈ l', ws.length ≤ f ∧ f < hd' := fun f hf => by
    have := hp'.mem_iff.mp hf
    rw [List.mem_range'] at this
    obtain ⟨j, hj, e⟩ := this
    omega
  have h4 : slE (callN [true, false] F__law_mixed (conA (rd 0) (conA (lrE2 (rd 3) (rd 10)) nilA))) noP (soP (e2 ixD (rd 4) (rd 12))) Γ3 = .ok (Γ3.set 0 (some (.o d2))) (.o (.lst (((nats l').take bt).map .p))) :=
    slN (call1o rfl rfl hlr (fun j z => by cases z) hmx) (ixB_ok (B := B) rfl (rd_p rfl) hbt)
  have htk : (nats l').take bt = nats (l'.take bt) := by unfold nats; rw [List.map_take]
  rw [htk] at h4
  let Fi : Option E := some (.p (.tup (nats (l'.take bt))))
  let Γ4 : G := macG d2 ws B Ls (intE i) L8 (intE s) (intE hd') (linE fits) (intE to) Fi x14
  have h5 : ∃ (d3 : D) (ns : List Nat), IsSrc d3 ∧ ns.length ≤ 2 ∧ (∀ n ∈ ns, n < hd') ∧ lcE (rgI1 (ifE (tst (e2 gtI (rd 10) (cE (.int 0)))) (callN [true, false] F__law_pick (conA (rd 0) (conA (cE (.int 3)) nilA))) (cE (.int 0)))) [6] (nmT 6) yesB (callN [true, false] F__law_pick (conA (rd 0) (conA (rd 10) nilA))) Γ4 =
      .ok (macG d3 ws B Ls (intE i) L8 (intE s) (intE hd') (linE fits) (intE to) Fi x14) (.o (.lst ((nats ns).map .p))) := by
    have hgt : tst (e2 gtI (rd 10) (cE (.int 0))) Γ4 = .ok Γ4 (decide (0 < hd')) := by
      rw [tst_ok (gtI_ok (a := (hd' : Int)) (b := 0) (rd_p rfl) rfl)]
      have hq : (decide ((0 : Int) < (hd' : Int))) = decide (0 < hd') := by
        rw [decide_eq_decide]; omega
      rw [hq]
    have hit : ∃ (d3 : D) (r : Nat), IsSrc d3 ∧ r ≤ 2 ∧ (hd' = 0 → r = 0) ∧ ifE (tst (e2 gtI (rd 10) (cE (.int 0)))) (callN [true, false] F__law_pick (conA (rd 0) (conA (cE (.int 3)) nilA))) (cE (.int 0)) Γ4 = .ok (Γ4.set 0 (some (.o d3))) (.p (.int (r : Int))) := by
      unfold ifE
      rw [hgt]
      simp only [Rs.bind_ok]
      by_cases hz : 0 < hd'
      · obtain ⟨d3, r, q1, q2, q3⟩ := pickN (Γ := Γ4) (d := d2) (many := 3) (f := cE (.int 3)) hd2 rfl rfl (by decide)
        refine ⟨d3, r, q1, by omega, fun z => by omega, ?_⟩
        rw [if_pos (decide_eq_true hz)]; exact q3
      · refine ⟨d2, 0, hd2, by omega, fun _ => rfl, ?_⟩
        rw [if_neg (by rw [decide_eq_false hz]; simp)]; rfl
    obtain ⟨d3, r, q1, q2, q2', q3⟩ := hit
    have hrg := rgN q3 (by omega)
    let R0 : G := [some (.p (.tup (txts ws))), intE B.length, intE ws.length, linE B, lstP Ls, none, intE i, L8, intE s, intE hd', linE fits, intE to, Fi, x14, none, none]
    obtain ⟨d4, ns, g1, g2, g3, g4⟩ := comp_src (w := 5) (f := callN [true, false] F__law_pick (conA (rd 0) (conA (rd 10) nilA))) (R := R0) (R0 := R0) (fun (_ : Nat) n => n < max 1 hd') (List.range r) q1 hrg rfl (by rw [List.length_range]; omega) fun e he dd hdd => by
      obtain ⟨d', n, p1, p2, p3⟩ := pickN (Γ := some (.o dd) :: R0.set 5 (some (.p (.int (e : Int))))) (d := dd) (many := hd') (f := rd 10) hdd rfl (rd_p rfl) (by omega)
      exact ⟨d', n, p1, p2, own_p p3⟩
    rw [List.length_range] at g2
    refine ⟨d4, ns, g1, by omega, fun n hn => ?_, g4⟩
    obtain ⟨e, he, hlt⟩ := g3 n hn
    have he := List.mem_range.mp he
    by_cases hz : hd' = 0
    · have := q2' hz; omega
    · omega
  obtain ⟨d3, ns, hd3, hns, hnlt, h5⟩ := h5
  let An : Option E := some (.p (.tup (nats ns)))
  let Γ5 : G := macG d3 ws B Ls (intE i) L8 (intE s) (intE hd') (linE fits) (intE to) Fi An
  have hent : EntOk ws.length B b s (Ent.mk ns to (l'.take bt)) := by
    refine EntOk.mk (fun a ha => ?_) hns ?_ ?_ (fun f hf => ?_)
    · rw [← hhd]; exact hnlt a ha
    · show B[to]? = some (l'.take bt).length
      rw [hbt, List.length_take, hl'len, Nat.min_eq_left hbt2]
    · exact (List.take_sublist _ _).nodup hl'nd
    · rw [← hhd]; exact hl'm f (List.mem_of_mem_take hf)
  refine ⟨d3, Ent.mk ns to (l'.take bt), intE hd', linE fits, intE to, Fi, An, hd3, hent, ?_⟩
  · show entB Γ0 = _
    unfold entB
    rw [seqS_nx (Γ1 := Γ1) (asgP h1 rfl)]
    rw [seqS_nx (Γ1 := Γ2) (asgO h2 rfl)]
    rw [seqS_nx (Γ1 := Γ3) (asgP h3 rfl)]
    rw [seqS_nx (Γ1 := Γ4) (asgP (tupO_ok h4) rfl)]
    rw [seqS_nx (Γ1 := Γ5) (asgP (tupO_ok h5) rfl)]
    have h6 : tupE (conA (rd 14) (conA (rd 12) (conA (rd 13) nilA))) Γ5 = .ok Γ5 (.p (entP (Ent.mk ns to (l'.take bt)))) := tup3 (rd_p rfl) (rd_p rfl) (rd_p rfl)
    rw [app_ok (Γ := Γ5) (xs := acc.map entP) rfl h6 (by simp; omega)]
    have e3 : acc.map entP ++ [entP (Ent.mk ns to (l'.take bt))] = (acc ++ [(Ent.mk ns to (l'.take bt))]).map entP := by simp
    rw [e3]
    rfl
noncomputable abbrev linB : X3 := seqS (asgS (nmT 8) (lstE nilA))
    (seqS (forS (rgI1 (e2 addI (e2 addI (rd 3) (e2 ixD (rd 4) (rd 7))) (cE (.int 1)))) (nmT 9) entB)
    (dropS (e2r isL appO (rd 5) (own (e1 tupO (rd 8))))))
structure BxOk (ws : List Str) (B : List Nat) : Prop where
  hw : ws.length ≤ 2
  hB : B.length ≤ 4
  hb2 : ∀ b ∈ B, b ≤ 2
  h0 : B[0]? = some 0
theorem ent_loop {ws : List Str} {B : List Nat} (hx : BxOk ws B) {i b : Nat} (hb : B[i]? = some b) (Ls : List P) : ∀ (n s : Nat) (d : D) (acc : List Ent) (x9 x10 x11 x12 x13 x14 : Option E), IsSrc d → s + n = ws.length + b + 1 → acc.length = s → (∀ (j : Nat) (e : Ent), acc[j]? = some e → EntOk ws.length B b j e) →
    ∃ (d' : D) (es : List Ent) (y9 y10 y11 y12 y13 y14 : Option E), IsSrc d' ∧ es.length = ws.length + b + 1 ∧ (∀ (j : Nat) (e : Ent), es[j]? = some e → EntOk ws.length B b j e) ∧
      forL (nmT 9) entB ((List.range' s n).map fun k : Nat => E.p (.int (k : Int))) (macG d ws B Ls (intE i) (lstP (acc.map entP)) x9 x10 x11 x12 x13 x14) = .nx (macG d' ws B Ls (intE i) (lstP (es.map entP)) y9 y10 y11 y12 y13 y14)
  | 0, s, d, acc, x9, x10, x11, x12, x13, x14, hd, hn, ha, he => ⟨d, acc, x9, x10, x11, x12, x13, x14, hd, by omega, he, rfl⟩
  | n + 1, s, d, acc, x9, x10, x11, x12, x13, x14, hd, hn, ha, he => by
    have hb' : b ≤ 2 := hx.hb2 _ (List.mem_of_getElem? hb)
    have hw := hx.hw
    obtain ⟨d1, e, y10, y11, y12, y13, y14, h1, h2, h3⟩ := entB_ok hd hw hx.hB hb hx.hb2 hx.h0 (s := s) (by omega) Ls acc (by omega) x10 x11 x12 x13 x14
    obtain ⟨d2, es, z9, z10, z11, z12, z13, z14, g1, g2, g3, g4⟩ := ent_loop hx hb Ls n (s + 1) d1 (acc ++ [e]) (intE s) y10 y11 y12 y13 y14 h1 (by omega) (by simp [ha]) fun j e' hj => by
      by_cases hjl : j < acc.length
      · rw [List.getElem?_append_left hjl] at hj
        exact he j e' hj
      · rw [List.getElem?_append_right (by omega)] at hj
        have hj0 : j - acc.length = 0 := by
          by_cases z : j - acc.length = 0
          · exact z
          · rw [List.getElem?_eq_none (by simp; omega)] at hj; cases hj
        rw [hj0] at hj
        cases hj
        have : j = s := by omega
        rw [this]; exact h2
    refine ⟨d2, es, z9, z10, z11, z12, z13, z14, g1, g2, g3, ?_⟩
    rw [List.range'_succ, List.map_cons, forL_cons (Γ1 := macG d ws B Ls (intE i) (lstP (acc.map entP)) (intE s) x10 x11 x12 x13 x14) rfl h3]
    exact g4
theorem linB_ok {ws : List Str} {B : List Nat} (hx : BxOk ws B) {i b : Nat} (hb : B[i]? = some b) {d : D} (hd : IsSrc d) (L : List (List Ent)) (hl : L.length < 1000) (x8 x9 x10 x11 x12 x13 x14 : Option E) :
    ∃ (d' : D) (es : List Ent) (y8 y9 y10 y11 y12 y13 y14 : Option E), IsSrc d' ∧ es.length = ws.length + b + 1 ∧ (∀ (j : Nat) (e : Ent), es[j]? = some e → EntOk ws.length B b j e) ∧
      linB (macG d ws B (L.map linP) (intE i) x8 x9 x10 x11 x12 x13 x14) = .nx (macG d' ws B ((L ++ [es]).map linP) (intE i) y8 y9 y10 y11 y12 y13 y14) := by
  have hb' : b ≤ 2 := hx.hb2 _ (List.mem_of_getElem? hb)
  have hw := hx.hw
  obtain ⟨d2, es, z9, z10, z11, z12, z13, z14, g1, g2, g3, g4⟩ := ent_loop hx hb (L.map linP) (ws.length + b + 1) 0 d [] x9 x10 x11 x12 x13 x14 hd (by omega) rfl (fun j e h => by cases h)
  refine ⟨d2, es, lstP (es.map entP), z9, z10, z11, z12, z13, z14, g1, g2, g3, ?_⟩
  unfold linB
  rw [seqS_nx (Γ1 := macG d ws B (L.map linP) (intE i) (lstP []) x9 x10 x11 x12 x13 x14) (asgO rfl rfl)]
  have hit : rgI1 (e2 addI (e2 addI (rd 3) (e2 ixD (rd 4) (rd 7))) (cE (.int 1))) (macG d ws B (L.map linP) (intE i) (lstP []) x9 x10 x11 x12 x13 x14) = .ok (macG d ws B (L.map linP) (intE i) (lstP []) x9 x10 x11 x12 x13 x14) (.p .non, (List.range' 0 (ws.length + b + 1)).map fun k : Nat => E.p (.int (k : Int))) := by
    rw [← List.range_eq_range']
    have h1 : e2 addI (e2 addI (rd 3) (e2 ixD (rd 4) (rd 7))) (cE (.int 1)) (macG d ws B (L.map linP) (intE i) (lstP []) x9 x10 x11 x12 x13 x14) = .ok (macG d ws B (L.map linP) (intE i) (lstP []) x9 x10 x11 x12 x13 x14) (.p (.int ((ws.length + b + 1 : Nat) : Int))) := by
      rw [add_ok (add_ok (f := rd 3) (a := (ws.length : Int)) (rd_p rfl) (ixB_ok (B := B) rfl (rd_p (x := .int (i : Int)) rfl) hb)) (b := 1) rfl]
      simp
    exact rgN h1 (by omega)
  rw [seqS_nx (by rw [forS_eq hit]; exact g4)]
  rw [app_ok (i := 5) (xs := L.map linP) (y := linP es) rfl (tupO_b rfl) (by simp; omega)]
  have e3 : L.map linP ++ [linP es] = (L ++ [es]).map linP := by simp
  rw [e3]
  rfl
theorem lin_loop {ws : List Str} {B : List Nat} (hx : BxOk ws B) : ∀ (n i : Nat) (d : D) (L : List (List Ent)) (x7 x8 x9 x10 x11 x12 x13 x14 : Option E), IsSrc d → i + n = B.length → L.length = i →
    (∀ (j : Nat) (l : List Ent) (b : Nat), L[j]? = some l → B[j]? = some b → l.length = ws.length + b + 1 ∧ ∀ (s : Nat) (e : Ent), l[s]? = some e → EntOk ws.length B b s e) →
    ∃ (d' : D) (L' : List (List Ent)) (y7 y8 y9 y10 y11 y12 y13 y14 : Option E), IsSrc d' ∧ L'.length = B.length ∧ (∀ (j : Nat) (l : List Ent) (b : Nat), L'[j]? = some l → B[j]? = some b → l.length = ws.length + b + 1 ∧ ∀ (s : Nat) (e : Ent), l[s]? = some e → EntOk ws.length B b s e) ∧
      forL (nmT 7) linB ((List.range' i n).map fun k : Nat => E.p (.int (k : Int))) (macG d ws B (L.map linP) x7 x8 x9 x10 x11 x12 x13 x14) = .nx (macG d' ws B (L'.map linP) y7 y8 y9 y10 y11 y12 y13 y14)
  | 0, i, d, L, x7, x8, x9, x10, x11, x12, x13, x14, hd, hn, hL, h => ⟨d, L, x7, x8, x9, x10, x11, x12, x13, x14, hd, by omega, h, rfl⟩
  | n + 1, i, d, L, x7, x8, x9, x10, x11, x12, x13, x14, hd, hn, hL, h => by
    have hB := hx.hB
    have hb : B[i]? = some B[i] := List.getElem?_eq_getElem (by omega)
    obtain ⟨d1, es, y8, y9, y10, y11, y12, y13, y14, h1, h2, h3, h4⟩ := linB_ok hx hb hd L (by omega) x8 x9 x10 x11 x12 x13 x14
    obtain ⟨d2, L', z7, z8, z9, z10, z11, z12, z13, z14, g1, g2, g3, g4⟩ := lin_loop hx n (i + 1) d1 (L ++ [es]) (intE i) y8 y9 y10 y11 y12 y13 y14 h1 (by omega) (by simp [hL]) fun j l b' hj hb' => by
      by_cases hjl : j < L.length
      · rw [List.getElem?_append_left hjl] at hj
        exact h j l b' hj hb'
      · rw [List.getElem?_append_right (by omega)] at hj
        have hj0 : j - L.length = 0 := by
          by_cases z : j - L.length = 0
          · exact z
          · rw [List.getElem?_eq_none (by simp; omega)] at hj; cases hj
        rw [hj0] at hj
        cases hj
        have : j = i := by omega
        subst this
        rw [hb] at hb'
        cases hb'
        exact ⟨h2, h3⟩
    refine ⟨d2, L', z7, z8, z9, z10, z11, z12, z13, z14, g1, g2, g3, ?_⟩
    rw [List.range'_succ, List.map_cons, forL_cons (Γ1 := macG d ws B (L.map linP) (intE i) x8 x9 x10 x11 x12 x13 x14) rfl h4]
    exact g4
theorem tupE_o {g : X2} {Γ Γ1 : G} {es : List E} {ds : List D} (h : g Γ = .ok Γ1 es) (hl : es.length ≤ 1000000) (hp : allP es = none) (hg : gat es = some ds) : tupE g Γ = .ok Γ1 (.o (.tup ds)) := by
  unfold tupE
  rw [h]
  simp [hl, mkTup, hp, hg]
/-- _the drawn machine -/
theorem machine_ok {d : D} (hd : IsSrc d) {ws : List Str} (hw : ws.length ≤ 2) (hwn : ws.Nodup) : ∃ (d' : D) (m : Mac) (Γ : G), IsSrc d' ∧ m.Ok ∧ m.words = ws ∧ F__law_machine [.o d, .p (.tup (txts ws))] = .ok (some (.o d') :: Γ) (.p m.p) := by
  let W : Option E := some (.p (.tup (txts ws)))
  let Γ0 : G := [some (.o d), W, none, none, none, none, none, none, none, none, none, none, none, none, none, none, none]
  obtain ⟨d1, r, p1, p2, p3⟩ := pickN (Γ := Γ0) (d := d) (many := 4) (f := cE (.int 4)) hd rfl rfl (by decide)
  have hr : r < 4 := by omega
  let Γ1 : G := [some (.o d1), W, intE (r + 1), intE ws.length, none, none, none, none, none, none, none, none, none, none, none, none, none]
  have h1 : tupE (conA (e2 addI (cE (.int 1)) (callN [true, false] F__law_pick (conA (rd 0) (conA (cE (.int 4)) nilA)))) (conA (e1 lenE (rd 1)) nilA)) Γ0 = .ok (Γ0.set 0 (some (.o d1))) (.p (.tup [.int ((r + 1 : Nat) : Int), .int (ws.length : Int)])) := by
    have a1 : e2 addI (cE (.int 1)) (callN [true, false] F__law_pick (conA (rd 0) (conA (cE (.int 4)) nilA))) Γ0 = .ok (Γ0.set 0 (some (.o d1))) (.p (.int ((r + 1 : Nat) : Int))) := by
      rw [add_ok (a := 1) rfl p3]
      have : (1 : Int) + (r : Int) = ((r + 1 : Nat) : Int) := by omega
      rw [this]
    refine tup2 a1 ?_
    rw [len_tup (xs := txts ws) (rd_p rfl), txts_len]
  obtain ⟨d2, ns, q1, q2, q3, q4⟩ := comp_src (w := 5) (it := rgI1 (e2 subI (rd 2) (cE (.int 1)))) (f := callN [true, false] F__law_pick (conA (rd 0) (conA (cE (.int 3)) nilA))) (R := [W, intE (r + 1), intE ws.length, none, none, none, none, none, none, none, none, none, none, none, none, none]) (R0 := [W, intE (r + 1), intE ws.length, none, none, none, none, none, none, none, none, none, none, none, none, none]) (Γ0 := Γ1)
    (fun (_ : Nat) n => n < 3) (List.range r) p1 (rgN (by
      rw [sub_ok (a := ((r + 1 : Nat) : Int)) (b := 1) (rd_p rfl) rfl]
      have : ((r + 1 : Nat) : Int) - 1 = (r : Int) := by omega
      rw [this]) (by omega)) rfl (by rw [List.length_range]; omega) fun e he dd hdd => by
        obtain ⟨d', n, p1, p2, p3⟩ := pickN (Γ := some (.o dd) :: (([W, intE (r + 1), intE ws.length, none, none, none, none, none, none, none, none, none, none, none, none, none] : G).set 5 (some (.p (.int (e : Int)))))) (d := dd) (many := 3) (f := cE (.int 3)) hdd rfl rfl (by decide)
        exact ⟨d', n, p1, by omega, own_p p3⟩
  rw [List.length_range] at q2
  let B : List Nat := 0 :: ns
  have hx : BxOk ws B := ⟨hw, by simp [B]; omega, fun b hb => by
    rcases List.mem_cons.mp hb with h | h
    · omega
    · obtain ⟨_, _, h⟩ := q3 b h; omega, rfl⟩
  have hBl : B.length = r + 1 := by simp [B, q2]
  let Γ2 : G := macG d2 ws B [] none none none none none none none none
  have h2 : tupE (conA (e2 catL (lstE (conA (cE (.int 0)) nilA)) (lcE (rgI1 (e2 subI (rd 2) (cE (.int 1)))) [6] (nmT 6) yesB (callN [true, false] F__law_pick (conA (rd 0) (conA (cE (.int 3)) nilA))))) (conA (lstE nilA) nilA)) Γ1 = .ok [some (.o d2), W, intE (r + 1), intE ws.length, none, none, none, none, none, none, none, none, none, none, none, none, none] (.o (.tup [.lst ((nats B).map .p), .lst []])) := by
    have a0 : lstE (conA (cE (.int 0)) nilA) Γ1 = .ok Γ1 (.o (.lst ((nats [0]).map .p))) := rfl
    have a1 := cat_ok (xs := nats [0]) (ys := nats ns) a0 q4 (plst_o _) (plst_o _) (by rw [nats_len, nats_len]; simp; omega)
    refine tupE_o (con_ok a1 (con_ok (e := .o (.lst [])) (es := []) rfl rfl)) (by simp) rfl rfl
  obtain ⟨d3, L, y7, y8, y9, y10, y11, y12, y13, y14, l1, l2, l3, l4⟩ := lin_loop hx B.length 0 d2 [] none none none none none none none none q1 (by omega) rfl (fun j l b h => by cases h)
  obtain ⟨d4, ys, R', g1, g2, g3, g4, g5⟩ := lcL_srcF (w := 6) (c := tst (e2 eqE (callN [true, false] F__law_pick (conA (rd 0) (conA (cE (.int 2)) nilA))) (cE (.int 0)))) (f := rd 7) (R0 := [W, intE B.length, intE ws.length, linE B, lstP (L.map linP), none, none, y8, y9, y10, y11, y12, y13, y14, none, none]) (List.range B.length) d3 [W, intE B.length, intE ws.length, linE B, lstP (L.map linP), none, y7, y8, y9, y10, y11, y12, y13, y14, none, none] [] l1 rfl (by rw [List.length_range]; have := hx.hB; simp; omega) fun e he dd hdd => by
    obtain ⟨d', n, p1, p2, p3⟩ := pickN (Γ := some (.o dd) :: (([W, intE B.length, intE ws.length, linE B, lstP (L.map linP), none, none, y8, y9, y10, y11, y12, y13, y14, none, none] : G).set 6 (intE e))) (d := dd) (many := 2) (f := cE (.int 2)) hdd rfl rfl (by decide)
    exact ⟨d', decide ((n : Int) = 0), p1, tst_ok (eqI_ok (a := (n : Int)) (b := 0) p3 rfl), own_p (rd_p rfl)⟩
  let m : Mac := ⟨ws, B, ys, L⟩
  have hyl : ys.length ≤ 4 := by rw [List.length_range] at g2; have := hx.hB; omega
  refine ⟨d4, m, [W, intE B.length, intE ws.length, linE B, lstP (L.map linP), none, none, y8, y9, y10, y11, y12, y13, y14, none, some (.p (.tup (nats ys)))], g1, ⟨⟨rfl, l2, fun i l b h1 h2 => (l3 i l b h1 h2).1, fun i l b s e h1 h2 => (l3 i l b h1 h2).2 s e⟩, hx.hB, hx.hb2, hwn, hw, fun y hy => List.mem_range.mp (g3 y hy), hyl⟩, rfl, fnE_p ?_⟩
  show b__law_machine Γ0 = _
  unfold b__law_machine
  rw [seqS_nx (Γ1 := Γ1) (asgP h1 rfl)]
  rw [seqS_nx (Γ1 := Γ2) (asgO h2 (by rw [show Γ2 = macG d2 ws B [] none none none none none none none none from rfl, macG, hBl]; rfl))]
  have hit : rgI1 (rd 2) Γ2 = .ok Γ2 (.p .non, (List.range' 0 B.length).map fun k : Nat => E.p (.int (k : Int))) := by
    rw [← List.range_eq_range']
    exact rgN (rd_p rfl) (by have := hx.hB; omega)
  rw [seqS_nx (by rw [forS_eq hit]; exact l4)]
  have hyes : e1 tupO (lcE (rgI1 (rd 2)) [7] (nmT 7) (tst (e2 eqE (callN [true, false] F__law_pick (conA (rd 0) (conA (cE (.int 2)) nilA))) (cE (.int 0)))) (rd 7)) (macG d3 ws B (L.map linP) y7 y8 y9 y10 y11 y12 y13 y14) = .ok [some (.o d4), W, intE B.length, intE ws.length, linE B, lstP (L.map linP), none, none, y8, y9, y10, y11, y12, y13, y14, none, none] (.p (.tup (nats ys))) := by
    refine tupO_ok ?_
    have hit2 : rgI1 (rd 2) (macG d3 ws B (L.map linP) y7 y8 y9 y10 y11 y12 y13 y14) = .ok (macG d3 ws B (L.map linP) y7 y8 y9 y10 y11 y12 y13 y14) (.p .non, (List.range B.length).map fun k : Nat => E.p (.int (k : Int))) := rgN (rd_p rfl) (by have := hx.hB; omega)
    rw [lcE_ok hit2 g5, List.nil_append]
    show Rs.ok ((some (E.o d4) :: R').set 7 none) _ = _
    rw [List.set_cons_succ, g4]
  rw [seqS_nx (Γ1 := [some (.o d4), W, intE B.length, intE ws.length, linE B, lstP (L.map linP), none, none, y8, y9, y10, y11, y12, y13, y14, none, some (.p (.tup (nats ys)))]) (asgP hyes rfl)]
  refine retP (tup_p (ps := [.tup (txts ws), .tup (nats B), .tup (nats ys), .tup (L.map linP)]) (con_ok (rd_p rfl) (con_ok (tupO_b rfl) (con_ok (rd_p rfl) (con_ok (tupO_b rfl) rfl)))) (by simp))
end Kv.W

set_option Elab.async false
set_option linter.all false
set_option maxRecDepth 100000
set_option maxHeartbeats 4000000
set_option autoImplicit false
/-! the plain law of k46: what is a stream -/
namespace Kv.W
open PySem PySem.Spec L2 Kv M
variable [Tbl]
/-- whether a text is a value -/
noncomputable def isV (s : Str) : Bool := match F_is_value [.p (.str s)] with
  | .ok _ (.p (.bl b)) => b
  | _ => false
theorem isV_ok {s : Str} (h : isV s = true) : ∃ Γ, F_is_value [.p (.str s)] = .ok Γ (.p (.bl true)) := by
  unfold isV at h
  split at h
  · rename_i Γ b he
    subst h
    exact ⟨Γ, he⟩
  · cases h
def VALS : List Str := ["a", "b", "c", "v0", "go", "x", "v1", "y", "z"]
theorem vals_isV : ∀ s ∈ VALS, isV s = true := by decide +kernel
theorem vals_fit : ∀ s ∈ VALS, PyData.strOk s = true ∧ s.cps.size ≤ 30 := by decide +kernel
theorem andE_t {f g : X1} {Γ Γ1 : G} (h : f Γ = .ok Γ1 (.p (.bl true))) : andE f g Γ = g Γ1 := by unfold andE; rw [h]; rfl
theorem andE_f {f g : X1} {Γ Γ1 : G} (h : f Γ = .ok Γ1 (.p (.bl false))) : andE f g Γ = .ok Γ1 (.p (.bl false)) := by unfold andE; rw [h]; rfl
theorem orB_t {f g : XB} {Γ Γ1 : G} (hf : f Γ = .ok Γ1 true) : orB f g Γ = .ok Γ1 true := by unfold orB; rw [hf]; rfl
theorem unB_map : ∀ bs : List Bool, unB ((bs.map fun b => P.bl b).map .p) = some bs
  | [] => rfl
  | b :: bs => by
    have ih := unB_map bs
    rw [List.map_cons, List.map_cons]
    unfold unB
    rw [ih]; rfl
theorem all_ok {f : X1} {Γ Γ1 : G} {bs : List Bool} (h : f Γ = .ok Γ1 (.o (.lst ((bs.map fun b => P.bl b).map .p)))) : e1 allO f Γ = .ok Γ1 (.p (.bl (bs.all id))) := by
  unfold e1
  rw [h]
  simp only [Rs.bind_ok]
  unfold allO
  show (match unB ((bs.map fun b => P.bl b).map .p) with | some bs => Rs.ok Γ1 (E.p (.bl (bs.all id))) | none => .bad) = _
  rw [unB_map]
theorem isi_tt {f : X1} {Γ Γ1 : G} {xs : List P} (h : f Γ = .ok Γ1 (.p (.tup xs))) : e1 (isiO "tuple") f Γ = .ok Γ1 (.p (.bl true)) := by
  unfold e1; rw [h]; rfl
/-- _a row of values -/
theorem row_ok {vs : List Str} (h : ∀ v ∈ vs, isV v = true) (hl : vs.length ≤ 200) : ∃ Γ, F_is_row [.p (.tup (txts vs))] = .ok Γ (.p (.bl true)) := by
  let Γ0 : G := [some (.p (.tup (txts vs))), none]
  refine ⟨Γ0, fnE_p ?_⟩
  show b_is_row Γ0 = _
  unfold b_is_row
  refine retP ?_
  rw [andE_t (Γ1 := Γ0) (isi_tt (rd_p rfl))]
  have h2 : e2 leI (e1 lenE (rd 0)) (cE g_MOST_ROW) Γ0 = .ok Γ0 (.p (.bl true)) := by
    rw [leI_ok (b := 200) (len_tup (xs := txts vs) (rd_p rfl)) rfl, txts_len, decide_eq_true (by omega)]
  rw [andE_t (Γ1 := Γ0) h2]
  have hit : sqI (rd 0) Γ0 = .ok Γ0 (.p (.tup (txts vs)), vs.map fun v => E.p (.str v)) := by
    rw [sqI_tup (xs := txts vs) (rd_p rfl)]; simp [txts, Function.comp_def]
  have hc := comp_ok (it := sqI (rd 0)) (ws := [1]) (t := nmT 1) (f := callN [false] F_is_value (conA (rd 1) nilA)) (fun _ : Str => P.bl true) vs hit (by omega) fun v hv => by
    obtain ⟨Γv, hv⟩ := isV_ok (h v hv)
    exact ⟨[some (.p (.tup (txts vs))), some (.p (.str v))], [some (.p (.tup (txts vs))), some (.p (.str v))], rfl, own_p (call_p (con_ok (rd_p rfl) rfl) hv), rfl⟩
  have e : vs.map (fun _ : Str => P.bl true) = (vs.map fun _ => true).map fun b => P.bl b := by simp
  rw [e] at hc
  rw [all_ok hc]
  have : (vs.map fun _ => true).all id = true := by simp
  rw [this]
  rfl
theorem row_no (d : List D) : ∃ Γ, F_is_row [.s (.lst d)] = .ok Γ (.p (.bl false)) := ⟨[some (.s (.lst d)), none], rfl⟩
theorem ch_ok {g g' : Int → Int → Bool} {f h k : X1} {Γ Γ1 Γ2 Γ3 : G} {i j l : Int} (hf : f Γ = .ok Γ1 (.p (.int i))) (hh : h Γ1 = .ok Γ2 (.p (.int j))) (hg : g i j = true) (hk : k Γ2 = .ok Γ3 (.p (.int l))) : chE g g' f h k Γ = .ok Γ3 (.p (.bl (g' j l))) := by
  unfold chE
  simp only [hf, hh, Rs.bind_ok]
  rw [if_pos hg, hk]
  rfl
theorem num_ok (n many : Nat) : ∃ Γ, F_is_number [.p (.int (n : Int)), .p (.int (many : Int))] = .ok Γ (.p (.bl (decide (n < many)))) := by
  let Γ0 : G := [some (.p (.int (n : Int))), some (.p (.int (many : Int)))]
  refine ⟨Γ0, fnE_p ?_⟩
  show b_is_number Γ0 = _
  unfold b_is_number
  refine retP ?_
  rw [andE_t (Γ1 := Γ0) (isi_int (rd_p rfl)), andE_t (Γ1 := Γ0) rfl]
  rw [ch_ok (i := 0) (j := (n : Int)) (l := (many : Int)) rfl (rd_p rfl) (decide_eq_true (Int.natCast_nonneg _)) (rd_p rfl)]
  have : (decide ((n : Int) < (many : Int))) = decide (n < many) := by rw [decide_eq_decide]; omega
  rw [this]
theorem num_bl (b : Bool) (x : P) : ∃ Γ, F_is_number [.p (.bl b), .p x] = .ok Γ (.p (.bl false)) := ⟨[some (.p (.bl b)), some (.p x)], rfl⟩
theorem kD_like : ∀ vs : List Str, prK (vs.map fun v => P.tup [.str v, .bl true]) = some (vs.map fun v => (Sum.inr v, D.p (.bl true)))
  | [] => rfl
  | v :: vs => by
    have ih := kD_like vs
    rw [List.map_cons]
    show (match some (Sum.inr v : Key) with | some k => (prK (vs.map fun v => P.tup [.str v, .bl true])).map ((k, D.p (.bl true)) :: ·) | none => none) = _
    rw [ih]; rfl
abbrev tD (vs : List Str) : List (Key × D) := vs.map fun v => (Sum.inr v, D.p (.bl true))
theorem tD_put {vs : List Str} {v : Str} (h : v ∉ vs) : dput (tD vs) (.inr v) (.p (.bl true)) = tD (vs ++ [v]) := by
  unfold dput
  have h1 : ((tD vs).any fun kv => decide (kv.1 = Sum.inr v)) = false := by
    rw [List.any_eq_false]
    intro kv hkv
    obtain ⟨q, hq, rfl⟩ := List.mem_map.mp hkv
    have : ¬ q = v := fun e => h (e ▸ hq)
    simpa using this
  rw [h1]
  simp [tD]
theorem tD_merge : ∀ (g f : List Str), (f ++ g).Nodup → mergeD (tD f) (tD g) = tD (f ++ g)
  | [], f, _ => by simp [mergeD, tD]
  | q :: g, f, h => by
    have h0 : q ∉ f := by
      rw [List.nodup_append] at h
      exact fun z => h.2.2 _ z _ (by simp) rfl
    have e : f ++ q :: g = (f ++ [q]) ++ g := by simp
    have ih := tD_merge g (f ++ [q]) (by rw [← e]; exact h)
    rw [e, ← ih]
    unfold mergeD
    have : tD (q :: g) = (Sum.inr q, D.p (.bl true)) :: tD g := rfl
    rw [this, List.foldl_cons, tD_put h0]
/-- _unlike members: all of them, where none comes twice -/
theorem like_ok {vs : List Str} (hn : vs.Nodup) (hl : vs.length ≤ 1000) : ∃ Γ, F_unlike_of [.p (.tup (txts vs))] = .ok Γ (.o (.lst ((txts vs).map .p))) := by
  let Γ0 : G := [some (.p (.tup (txts vs))), none]
  refine ⟨Γ0, fnE_o ?_⟩
  show b_unlike_of Γ0 = _
  unfold b_unlike_of
  refine retO ?_
  have hit : sqI (rd 0) Γ0 = .ok Γ0 (.p (.tup (txts vs)), vs.map fun v => E.p (.str v)) := by
    rw [sqI_tup (xs := txts vs) (rd_p rfl)]; simp [txts, Function.comp_def]
  have hc := comp_ok (it := sqI (rd 0)) (ws := [1]) (t := nmT 1) (f := tupE (conA (rd 1) (conA (cE (.bl true)) nilA))) (fun v : Str => P.tup [.str v, .bl true]) vs hit (by omega) fun v hv =>
    ⟨[some (.p (.tup (txts vs))), some (.p (.str v))], [some (.p (.tup (txts vs))), some (.p (.str v))], rfl, own_p (tup2 (rd_p rfl) rfl), rfl⟩
  have hd : e1 dctO (lcE (sqI (rd 0)) [1] (nmT 1) yesB (tupE (conA (rd 1) (conA (cE (.bl true)) nilA)))) Γ0 = .ok Γ0 (.o (.dct (tD vs))) := by
    unfold e1
    rw [hc]
    simp only [Rs.bind_ok]
    unfold dctO
    rw [lseq_o]
    show (match prK (vs.map fun v => P.tup [.str v, .bl true]) with | some kvs => Rs.ok Γ0 (E.o (.dct (mergeD [] kvs))) | none => .bad) = _
    rw [kD_like]
    have := tD_merge vs [] (by simpa using hn)
    show Rs.ok Γ0 (E.o (.dct (mergeD (tD []) (tD vs)))) = _
    rw [this]; rfl
  unfold e1 at hd ⊢
  rw [hd]
  simp only [Rs.bind_ok]
  unfold lsdO
  show Rs.ok Γ0 (E.o (.lst (((tD vs).map fun kv => kP kv.1).map .p))) = _
  have : ((tD vs).map fun kv => kP kv.1) = txts vs := by unfold tD txts; rw [List.map_map]; rfl
  rw [this]
/-- .. of two alike -/
theorem like_xx : ∃ Γ, F_unlike_of [.p (.tup (txts ["x", "x"]))] = .ok Γ (.o (.lst ((txts ["x"]).map .p))) := by
  refine ⟨[some (.p (.tup (txts ["x", "x"]))), none], fnE_o ?_⟩
  show b_unlike_of [some (.p (.tup (txts ["x", "x"]))), none] = _
  unfold b_unlike_of
  refine retO ?_
  simp [e1, lcE, sqI, shr, rd, held, lcL, nmT, wipeG, yesB, own, tupE, conA, cE, nilA, gat, mkTup, allP, dctO, lseq, val, unP, prK, keyP, mergeD, dput, lsdO, kP, txts]
section
variable {m : Mac} (hm : m.Ok)
/-- what a look at a stand answers -/
def IsSt (m : Mac) (e : E) (b : Bool) : Prop := ∃ Γ, F_is_stand [.p m.p, e] = .ok Γ (.p (.bl b))
theorem boxT {Γ : G} (h : Γ[0]? = some (some (.p m.p))) : e2 ixD (rd 0) (cE (.int 1)) Γ = .ok Γ (.p (.tup (nats m.boxes))) := ix_ok (i := 1) (xs := [.tup (txts m.words), .tup (nats m.boxes), .tup (nats m.yes), .tup (m.lines.map linP)]) (rd_p h) rfl rfl
theorem lenBx {Γ : G} (h : Γ[0]? = some (some (.p m.p))) : e1 lenE (e2 ixD (rd 0) (cE (.int 1))) Γ = .ok Γ (.p (.int (m.boxes.length : Nat))) := by rw [len_tup (boxT h), nats_len]
noncomputable abbrev st1 : XB := orB (notB (tst (e1 (isiO "tuple") (rd 1)))) (orB (tst (e2 neE (e1 lenE (rd 1)) (cE (.int 2)))) (notB (tst (callN [false, false] F_is_number (conA (e2 ixD (rd 1) (cE (.int 0))) (conA (e1 lenE (e2 ixD (rd 0) (cE (.int 1)))) nilA))))))
noncomputable abbrev st2 : XB := orB (notB (tst (callN [false] F_is_row (conA (e2 ixD (rd 1) (cE (.int 1))) nilA)))) (tst (e2 neE (e1 lenE (e2 ixD (rd 1) (cE (.int 1)))) (e2 ixD (e2 ixD (rd 0) (cE (.int 1))) (e2 ixD (rd 1) (cE (.int 0))))))
theorem st1_tup (q : P) (b : Bool) (vs : P) (hq : ∃ Γ, F_is_number [.p q, .p (.int (m.boxes.length : Nat))] = .ok Γ (.p (.bl b))) : st1 [some (.p m.p), some (.p (.tup [q, vs])), none] = .ok [some (.p m.p), some (.p (.tup [q, vs])), none] (!b) := by
  let Γ0 : G := [some (.p m.p), some (.p (.tup [q, vs])), none]
  obtain ⟨Γn, hn⟩ := hq
  have h1 : notB (tst (e1 (isiO "tuple") (rd 1))) Γ0 = .ok Γ0 false := by rw [notB_ok (tst_ok (isi_tt (rd_p rfl)))]; rfl
  have h2 : tst (e2 neE (e1 lenE (rd 1)) (cE (.int 2))) Γ0 = .ok Γ0 false := by
    rw [tst_ok (neI_ok (b := 2) (len_tup (xs := [q, vs]) (rd_p rfl)) rfl)]; rfl
  have h3 : notB (tst (callN [false, false] F_is_number (conA (e2 ixD (rd 1) (cE (.int 0))) (conA (e1 lenE (e2 ixD (rd 0) (cE (.int 1)))) nilA)))) Γ0 = .ok Γ0 (!b) :=
    notB_ok (tst_ok (call_p (con_ok (ix_ok (i := 0) (xs := [q, vs]) (rd_p rfl) rfl rfl) (con_ok (lenBx rfl) rfl)) hn))
  show st1 Γ0 = _
  unfold st1 orB
  rw [h1]
  simp only [Rs.bind_ok]
  rw [if_neg (by simp), h2]
  simp only [Rs.bind_ok]
  rw [if_neg (by simp), h3]
theorem st2_tup {q : Nat} {vs : List Str} {b : Nat} (hv : ∀ v ∈ vs, isV v = true) (hl : vs.length ≤ 200) (hb : m.boxes[q]? = some b) : st2 [some (.p m.p), some (.p (.tup [.int (q : Int), .tup (txts vs)])), none] = .ok [some (.p m.p), some (.p (.tup [.int (q : Int), .tup (txts vs)])), none] (!decide (vs.length = b)) := by
  let Γ0 : G := [some (.p m.p), some (.p (.tup [.int (q : Int), .tup (txts vs)])), none]
  obtain ⟨Γr, hr⟩ := row_ok hv hl
  have hv1 : e2 ixD (rd 1) (cE (.int 1)) Γ0 = .ok Γ0 (.p (.tup (txts vs))) := ix_ok (i := 1) (xs := [.int (q : Int), .tup (txts vs)]) (rd_p rfl) rfl rfl
  have h1 : notB (tst (callN [false] F_is_row (conA (e2 ixD (rd 1) (cE (.int 1))) nilA))) Γ0 = .ok Γ0 false := by
    rw [notB_ok (tst_ok (call_p (con_ok hv1 rfl) hr))]; rfl
  show st2 Γ0 = _
  unfold st2 orB
  rw [h1]
  simp only [Rs.bind_ok]
  rw [if_neg (by simp)]
  rw [tst_ok (neI_ok (lenT_st hv1) (ix_ok (i := q) (boxT rfl) (ix_ok (i := 0) (xs := [.int (q : Int), .tup (txts vs)]) (rd_p rfl) rfl rfl) (x := .int (b : Int)) (by unfold nats; rw [List.getElem?_map, hb]; rfl)))]
  have : (decide ((vs.length : Int) = (b : Int))) = decide (vs.length = b) := by rw [decide_eq_decide]; omega
  rw [this]
theorem isSt_num {q : P} {vs : P} (hq : ∃ Γ, F_is_number [.p q, .p (.int (m.boxes.length : Nat))] = .ok Γ (.p (.bl false))) : IsSt m (.p (.tup [q, vs])) false := by
  refine ⟨[some (.p m.p), some (.p (.tup [q, vs])), none], fnE_p ?_⟩
  show b_is_stand [some (.p m.p), some (.p (.tup [q, vs])), none] = _
  unfold b_is_stand
  exact seqS_rt (by rw [ifS_t (st1_tup q false vs hq)]; rfl)
theorem isSt_non : IsSt m (.p .non) false := by
  refine ⟨[some (.p m.p), some (.p .non), none], fnE_p ?_⟩
  show b_is_stand [some (.p m.p), some (.p .non), none] = _
  unfold b_is_stand
  have h1 : notB (tst (e1 (isiO "tuple") (rd 1))) [some (.p m.p), some (.p .non), none] = .ok [some (.p m.p), some (.p .non), none] true := rfl
  exact seqS_rt (by rw [ifS_t (orB_t h1)]; rfl)
theorem isSt_len {q : Nat} {vs : List Str} {b : Nat} (hv : ∀ v ∈ vs, isV v = true) (hl : vs.length ≤ 200) (hb : m.boxes[q]? = some b) (hn : vs.length ≠ b) : IsSt m (.p (.tup [.int (q : Int), .tup (txts vs)])) false := by
  have hq : q < m.boxes.length := by
    by_cases z : q < m.boxes.length
    · exact z
    · rw [List.getElem?_eq_none (by omega)] at hb; cases hb
  have h1 := st1_tup (m := m) (.int (q : Int)) true (.tup (txts vs)) (by obtain ⟨Γ, h⟩ := num_ok q m.boxes.length; rw [decide_eq_true hq] at h; exact ⟨Γ, h⟩)
  have h2 := st2_tup (m := m) hv hl hb
  rw [decide_eq_false hn] at h2
  refine ⟨[some (.p m.p), some (.p (.tup [.int (q : Int), .tup (txts vs)])), none], fnE_p ?_⟩
  show b_is_stand [some (.p m.p), some (.p (.tup [.int (q : Int), .tup (txts vs)])), none] = _
  unfold b_is_stand
  rw [seqS_nx (Γ1 := [some (.p m.p), some (.p (.tup [.int (q : Int), .tup (txts vs)])), none]) (by rw [ifS_f h1]; rfl)]
  exact seqS_rt (by rw [ifS_t h2]; rfl)
noncomputable abbrev st3 : X1 := andE (e2 eqE (lcE (sqI (e2 ixD (rd 1) (cE (.int 1)))) [2] (nmT 2) (tst (e2 inE (rd 2) (e2 ixD (rd 0) (cE (.int 0))))) (rd 2)) (lstE nilA)) (e2 eqE (e1 lenE (callN [false] F_unlike_of (conA (e2 ixD (rd 1) (cE (.int 1))) nilA))) (e1 lenE (e2 ixD (rd 1) (cE (.int 1)))))
theorem st3_tup {q : Nat} {vs us : List Str} (hw : ∀ v ∈ vs, v ∉ m.words) (hl : vs.length ≤ 200) (hu : ∃ Γ, F_unlike_of [.p (.tup (txts vs))] = .ok Γ (.o (.lst ((txts us).map .p)))) : st3 [some (.p m.p), some (.p (.tup [.int (q : Int), .tup (txts vs)])), none] = .ok [some (.p m.p), some (.p (.tup [.int (q : Int), .tup (txts vs)])), none] (.p (.bl (decide (us.length = vs.length)))) := by
  let Γ0 : G := [some (.p m.p), some (.p (.tup [.int (q : Int), .tup (txts vs)])), none]
  obtain ⟨Γu, hu⟩ := hu
  have hv1 : e2 ixD (rd 1) (cE (.int 1)) Γ0 = .ok Γ0 (.p (.tup (txts vs))) := ix_ok (i := 1) (xs := [.int (q : Int), .tup (txts vs)]) (rd_p rfl) rfl rfl
  have hit : sqI (e2 ixD (rd 1) (cE (.int 1))) Γ0 = .ok Γ0 (.p (.tup (txts vs)), vs.map fun v => E.p (.str v)) := by
    rw [sqI_tup hv1]; simp [txts, Function.comp_def]
  have hc := compf_ok (it := sqI (e2 ixD (rd 1) (cE (.int 1)))) (ws := [2]) (t := nmT 2) (c := tst (e2 inE (rd 2) (e2 ixD (rd 0) (cE (.int 0))))) (f := rd 2) (fun v : Str => decide (v ∈ m.words)) P.str vs hit (by omega) fun v hv => by
    let Γ1 : G := [some (.p m.p), some (.p (.tup [.int (q : Int), .tup (txts vs)])), some (.p (.str v))]
    refine ⟨Γ1, Γ1, rfl, tst_ok (in_txts (rd_p rfl) (ix_ok (i := 0) (xs := [.tup (txts m.words), .tup (nats m.boxes), .tup (nats m.yes), .tup (m.lines.map linP)]) (rd_p rfl) rfl rfl) rfl), rfl, fun _ => ⟨Γ1, own_p (rd_p rfl), rfl⟩⟩
  have hf : vs.filter (fun v : Str => decide (v ∈ m.words)) = [] := by
    rw [List.filter_eq_nil_iff]
    intro v hv
    simpa using hw v hv
  rw [hf] at hc
  show st3 Γ0 = _
  unfold st3
  have h1 : e2 eqE (lcE (sqI (e2 ixD (rd 1) (cE (.int 1)))) [2] (nmT 2) (tst (e2 inE (rd 2) (e2 ixD (rd 0) (cE (.int 0))))) (rd 2)) (lstE nilA) Γ0 = .ok Γ0 (.p (.bl true)) :=
    eq_lsts (xs := []) (ys := []) hc rfl rfl rfl rfl (by decide) rfl (by decide)
  rw [andE_t h1]
  have h2 : e1 lenE (callN [false] F_unlike_of (conA (e2 ixD (rd 1) (cE (.int 1))) nilA)) Γ0 = .ok Γ0 (.p (.int (us.length : Nat))) := by
    have : callN [false] F_unlike_of (conA (e2 ixD (rd 1) (cE (.int 1))) nilA) Γ0 = .ok Γ0 (.o (.lst ((txts us).map .p))) := call_o (con_ok hv1 rfl) hu
    unfold e1
    rw [this]
    show Rs.ok Γ0 (E.p (.int (((txts us).map D.p).length : Nat))) = _
    rw [List.length_map, txts_len]
  rw [eqI_ok h2 (lenT_st hv1)]
  have : (decide ((us.length : Int) = (vs.length : Int))) = decide (us.length = vs.length) := by rw [decide_eq_decide]; omega
  rw [this]
theorem isSt_last {q : Nat} {vs us : List Str} (hv : ∀ v ∈ vs, isV v = true) (hl : vs.length ≤ 200) (hb : m.boxes[q]? = some vs.length) (hw : ∀ v ∈ vs, v ∉ m.words) (hu : ∃ Γ, F_unlike_of [.p (.tup (txts vs))] = .ok Γ (.o (.lst ((txts us).map .p)))) : IsSt m (.p (.tup [.int (q : Int), .tup (txts vs)])) (decide (us.length = vs.length)) := by
  have hq : q < m.boxes.length := by
    by_cases z : q < m.boxes.length
    · exact z
    · rw [List.getElem?_eq_none (by omega)] at hb; cases hb
  have h1 := st1_tup (m := m) (.int (q : Int)) true (.tup (txts vs)) (by obtain ⟨Γ, h⟩ := num_ok q m.boxes.length; rw [decide_eq_true hq] at h; exact ⟨Γ, h⟩)
  have h2 := st2_tup (m := m) hv hl hb
  rw [decide_eq_true rfl] at h2
  refine ⟨[some (.p m.p), some (.p (.tup [.int (q : Int), .tup (txts vs)])), none], fnE_p ?_⟩
  show b_is_stand [some (.p m.p), some (.p (.tup [.int (q : Int), .tup (txts vs)])), none] = _
  unfold b_is_stand
  rw [seqS_nx (Γ1 := [some (.p m.p), some (.p (.tup [.int (q : Int), .tup (txts vs)])), none]) (by rw [ifS_f h1]; rfl)]
  rw [seqS_nx (Γ1 := [some (.p m.p), some (.p (.tup [.int (q : Int), .tup (txts vs)])), none]) (by rw [ifS_f h2]; rfl)]
  exact retP (st3_tup hw hl hu)
theorem isSt_ok {st : St Str} (hst : StOk m.words m.boxes st) (hv : ∀ v ∈ st.2, isV v = true) (hl : st.2.length ≤ 200) : IsSt m (.p (stP st)) true := by
  have := isSt_last (m := m) (q := st.1) hv hl hst.b hst.w (like_ok hst.n (by omega))
  rw [decide_eq_true rfl] at this
  exact this
/-- a list in the place of the values -/
theorem isSt_lst {q : Nat} {ds : List D} (hq : q < m.boxes.length) : IsSt m (.s (.tup [.p (.int (q : Int)), .lst ds])) false := by
  let Γ0 : G := [some (.p m.p), some (.s (.tup [.p (.int (q : Int)), .lst ds])), none]
  obtain ⟨Γn, hn⟩ := num_ok q m.boxes.length
  rw [decide_eq_true hq] at hn
  obtain ⟨Γr, hr⟩ := row_no ds
  have h1 : st1 Γ0 = .ok Γ0 false := by
    have a1 : notB (tst (e1 (isiO "tuple") (rd 1))) Γ0 = .ok Γ0 false := rfl
    have a2 : tst (e2 neE (e1 lenE (rd 1)) (cE (.int 2))) Γ0 = .ok Γ0 false := by
      rw [tst_ok (neI_ok (a := 2) (b := 2) rfl rfl)]; rfl
    have a3 : notB (tst (callN [false, false] F_is_number (conA (e2 ixD (rd 1) (cE (.int 0))) (conA (e1 lenE (e2 ixD (rd 0) (cE (.int 1)))) nilA)))) Γ0 = .ok Γ0 (!true) :=
      notB_ok (tst_ok (call_p (con_ok (e := .p (.int (q : Int))) rfl (con_ok (lenBx rfl) rfl)) hn))
    unfold st1 orB
    rw [a1]
    simp only [Rs.bind_ok]
    rw [if_neg (by simp), a2]
    simp only [Rs.bind_ok]
    rw [if_neg (by simp), a3]
    rfl
  have h2 : notB (tst (callN [false] F_is_row (conA (e2 ixD (rd 1) (cE (.int 1))) nilA))) Γ0 = .ok Γ0 true := by
    rw [notB_ok (tst_ok (call_p (con_ok (e := .s (.lst ds)) rfl rfl) hr))]; rfl
  refine ⟨Γ0, fnE_p ?_⟩
  show b_is_stand Γ0 = _
  unfold b_is_stand
  rw [seqS_nx (Γ1 := Γ0) (by rw [ifS_f h1]; rfl)]
  exact seqS_rt (by rw [ifS_t (orB_t h2)]; rfl)
/-- _a stream, member by member -/
theorem stream_ok {v : E} (hv1 : e1 (isiO "tuple") (rd 1) [some (.p m.p), some v, none] = .ok [some (.p m.p), some v, none] (.p (.bl true))) (hv2 : e2 neE (rd 1) (tupE nilA) [some (.p m.p), some v, none] = .ok [some (.p m.p), some v, none] (.p (.bl true))) {ce : E} {items : List (E × Bool)}
    (hit : sqI (rd 1) [some (.p m.p), some v, none] = .ok [some (.p m.p), some v, none] (ce, items.map (·.1))) (hl : items.length ≤ 1000000) (hs : ∀ q ∈ items, ((∀ j, q.1 ≠ .b j) ∧ ∀ d, q.1 ≠ .o d) ∧ IsSt m q.1 q.2) : ∃ Γ, F_is_stream [.p m.p, v] = .ok Γ (.p (.bl ((items.map (·.2)).all id))) := by
  let Γ0 : G := [some (.p m.p), some v, none]
  refine ⟨Γ0, fnE_p ?_⟩
  show b_is_stream Γ0 = _
  unfold b_is_stream
  refine retP ?_
  rw [andE_t hv1, andE_t hv2]
  have hc := comp_ok (it := sqI (rd 1)) (ws := [2]) (t := nmT 2) (f := callN [false, false] F_is_stand (conA (rd 0) (conA (rd 2) nilA))) (fun q : E × Bool => P.bl q.2) items hit hl fun q hq => by
    obtain ⟨⟨nb, no⟩, Γs, h⟩ := hs q hq
    let Γ1 : G := [some (.p m.p), some v, some q.1]
    refine ⟨Γ1, Γ1, rfl, own_p ?_, rfl⟩
    obtain ⟨e, b⟩ := q
    cases e with
    | b j => exact absurd rfl (nb j)
    | p x => exact call_p (con_ok (rd_p rfl) (con_ok (rd_p rfl) rfl)) h
    | s x => exact call_p (con_ok (rd_p rfl) (con_ok (rd_s rfl) rfl)) h
    | o x => exact absurd rfl (no x)
  have e : items.map (fun q : E × Bool => P.bl q.2) = (items.map (·.2)).map fun b => P.bl b := by simp [Function.comp_def]
  rw [e] at hc
  exact all_ok hc
end
end Kv.W

set_option Elab.async false
set_option linter.all false
set_option maxRecDepth 100000
set_option maxHeartbeats 4000000
set_option autoImplicit false
/-! the plain law of k46: what is needed for a lap -/
namespace Kv.W
open PySem PySem.Spec L2 Kv M
variable [Tbl]
/-- a comprehension whose members are drawn, the source in slot 1 -/
theorem lcL_src1 {w : Nat} {f : X1} {A : Option E} {R0 : G} {α : Type} {ι : α → E} (Q : P → Prop) : ∀ (items : List α) (d : D) (R : G) (acc : List P), IsSrc d → R.set w none = R0 → acc.length + items.length ≤ 1000000 →
    (∀ e ∈ items, ∀ d, IsSrc d → ∃ d' x, IsSrc d' ∧ Q x ∧ own f (A :: some (.o d) :: R0.set w (some (ι e))) = .ok (A :: some (.o d') :: R0.set w (some (ι e))) (.p x)) →
    ∃ (d' : D) (xs : List P) (R' : G), IsSrc d' ∧ xs.length = items.length ∧ (∀ x ∈ xs, Q x) ∧ R'.set w none = R0 ∧
      lcL [w + 2] (nmT (w + 2)) yesB f (items.map ι) (A :: some (.o d) :: R) (acc.map .p) = .ok (A :: some (.o d') :: R') ((acc ++ xs).map .p)
  | [], d, R, acc, hd, hR, _, _ => ⟨d, [], R, hd, rfl, fun n h => (by cases h), hR, by rw [List.append_nil]; rfl⟩
  | e :: r, d, R, acc, hd, hR, hl, h => by
    obtain ⟨d1, x, a1, a2, a3⟩ := h e List.mem_cons_self d hd
    have hR1 : (R0.set w (some (ι e))).set w none = R0 := by rw [List.set_set, ← hR, List.set_set]
    obtain ⟨d2, xs, R', b1, b2, b3, b4, b5⟩ := lcL_src1 Q r d1 (R0.set w (some (ι e))) (acc ++ [x]) a1 hR1 (by simp at hl ⊢; omega) fun e he => h e (List.mem_cons_of_mem _ he)
    refine ⟨d2, x :: xs, R', b1, by simp [b2], ?_, b4, ?_⟩
    · intro k hk
      rcases List.mem_cons.mp hk with rfl | hk
      · exact a2
      · exact b3 k hk
    · have ht : nmT (w + 2) (wipeG (A :: some (.o d) :: R) [w + 2]) (ι e) = some (A :: some (.o d) :: R0.set w (some (ι e))) := by
        show some (((A :: some (E.o d) :: R).set (w + 2) none).set (w + 2) (some (ι e))) = _
        rw [List.set_cons_succ, List.set_cons_succ, List.set_cons_succ, List.set_cons_succ, hR]
      rw [List.map_cons, lcL_cons (d := .p x) ht rfl a3 rfl (by rw [List.length_map]; simp at hl; omega)]
      have e3 : acc.map D.p ++ [D.p x] = (acc ++ [x]).map D.p := by simp
      rw [e3, b5]
      simp
theorem comp_src1 {w : Nat} {it : XI} {f : X1} {A : Option E} {R R0 Γ0 : G} {d : D} {ce : E} {α : Type} {ι : α → E} (Q : P → Prop) (items : List α) (hd : IsSrc d) (h1 : it Γ0 = .ok (A :: some (.o d) :: R) (ce, items.map ι)) (hR : R.set w none = R0) (hl : items.length ≤ 1000000)
    (h : ∀ e ∈ items, ∀ d, IsSrc d → ∃ d' x, IsSrc d' ∧ Q x ∧ own f (A :: some (.o d) :: R0.set w (some (ι e))) = .ok (A :: some (.o d') :: R0.set w (some (ι e))) (.p x)) :
    ∃ (d' : D) (xs : List P), IsSrc d' ∧ xs.length = items.length ∧ (∀ x ∈ xs, Q x) ∧ lcE it [w + 2] (nmT (w + 2)) yesB f Γ0 = .ok (A :: some (.o d') :: R0) (.o (.lst (xs.map .p))) := by
  obtain ⟨d', xs, R', a1, a2, a3, a4, a5⟩ := lcL_src1 Q items d R [] hd hR (by simpa using hl) h
  refine ⟨d', xs, a1, a2, a3, ?_⟩
  rw [lcE_ok h1 a5, List.nil_append]
  show Rs.ok ((A :: some (E.o d') :: R').set (w + 2) none) _ = _
  rw [List.set_cons_succ, List.set_cons_succ, a4]
theorem pickN1 {Γ : G} {d : D} {many : Nat} {f : X1} (hd : IsSrc d) (h0 : Γ[1]? = some (some (.o d))) (hf : f Γ = .ok Γ (.p (.int (many : Int)))) (hm : many < 1000000) :
    ∃ (d' : D) (n : Nat), IsSrc d' ∧ n < max 1 many ∧ callN [true, false] F__law_pick (conA (rd 1) (conA f nilA)) Γ = .ok (Γ.set 1 (some (.o d'))) (.p (.int (n : Int))) := by
  obtain ⟨d', r, h1, h2, h3, h4⟩ := call_pick (i := 1) hd h0 h0 hf (by omega)
  refine ⟨d', r.toNat, h1, by omega, ?_⟩
  rw [h4]
  have : ((r.toNat : Nat) : Int) = r := by omega
  rw [this]
/-- a member drawn of a new list -/
theorem ofN1 {Γ : G} {d : D} {xs : List P} {f : X1} (hd : IsSrc d) (h0 : Γ[1]? = some (some (.o d))) (hf : f Γ = .ok Γ (.o (.lst (xs.map .p)))) (hx : xs ≠ []) (hl : xs.length < 1000000) :
    ∃ (d' : D) (x : P), IsSrc d' ∧ x ∈ xs ∧ callN [true, false] F__law_of (conA (rd 1) (conA f nilA)) Γ = .ok (Γ.set 1 (some (.o d'))) (.p x) := by
  obtain ⟨d', x, Γf, h1, h2, h3⟩ := of_ok (d := d) (e := .o (.lst (xs.map .p))) hd (.o xs) hx (by omega)
  exact ⟨d', x, h1, h2, call1 h0 h0 hf (fun j z => by cases z) h3⟩
/-! ### sizes -/
theorem val_fit {v : Str} (h : v ∈ VALS) : Fit v := vals_fit v h
abbrev In (l : List Str) : Prop := ∀ v ∈ l, v ∈ VALS
theorem In.fit {l : List Str} (h : In l) : ∀ v ∈ l, Fit v := fun v hv => val_fit (h v hv)
theorem In.isv {l : List Str} (h : In l) : ∀ v ∈ l, isV v = true := fun v hv => vals_isV v (h v hv)
theorem fine_tup {xs : List P} (h : P.fines xs = true) : P.fine (.tup xs) = true := h
theorem ent_size {c b s : Nat} {B : List Nat} {e : Ent} (h : EntOk c B b s e) (hc : c ≤ 2) (hb : b ≤ 2) (hB : B.length ≤ 4) (hb2 : ∀ b ∈ B, b ≤ 2) : P.fine (entP e) = true ∧ P.dp (entP e) ≤ 2 ∧ P.wt (entP e) ≤ 57 := by
  have hh := hand_le c b s
  have hto : e.to < B.length := by
    have := h.fl
    by_cases z : e.to < B.length
    · exact z
    · rw [List.getElem?_eq_none (by omega)] at this; cases this
  have hfl : e.fills.length ≤ 2 := hb2 _ (List.mem_of_getElem? h.fl)
  have hal := h.al
  have d1 := nats_dps e.ans
  have d2 := nats_dps e.fills
  have w1 := nats_wts e.ans
  have w2 := nats_wts e.fills
  refine ⟨?_, ?_, ?_⟩
  · show P.fines [.tup (nats e.ans), nat' e.to, .tup (nats e.fills)] = true
    simp only [P.fines, Bool.and_eq_true]
    exact ⟨nats_fine fun n hn => by have := h.an n hn; omega, decide_eq_true (by omega), nats_fine fun n hn => by have := (h.fr n hn).2; omega, trivial⟩
  · show max (P.dps (nats e.ans) + 1) (max 0 (max (P.dps (nats e.fills) + 1) 0)) + 1 ≤ 2
    omega
  · show P.wts (nats e.ans) + 1 + (10 + 1 + (P.wts (nats e.fills) + 1 + 0)) ≤ 57
    omega
theorem lin_size {m : Mac} (hm : m.Ok) {i : Nat} {l : List Ent} (hl : m.lines[i]? = some l) : P.fine (linP l) = true ∧ P.dp (linP l) ≤ 3 ∧ P.wt (linP l) ≤ 290 := by
  have hi : i < m.boxes.length := by
    rw [← hm.l.ll]
    by_cases z : i < m.lines.length
    · exact z
    · rw [List.getElem?_eq_none (by omega)] at hl; cases hl
  have hb : m.boxes[i]? = some m.boxes[i] := List.getElem?_eq_getElem hi
  have hb2 := hm.bl _ (List.mem_of_getElem? hb)
  have hlen := hm.l.len i l _ hl hb
  have hw := hm.wl
  have he : ∀ x ∈ l.map entP, P.fine x = true ∧ P.dp x ≤ 2 ∧ P.wt x ≤ 57 := fun x hx => by
    obtain ⟨e, he, rfl⟩ := List.mem_map.mp hx
    obtain ⟨s, hs, es⟩ := List.getElem_of_mem he
    exact ent_size (hm.l.ent i l _ s e hl hb (by rw [List.getElem?_eq_getElem hs, es])) hw hb2 hm.many hm.bl
  refine ⟨fines_iff.mpr fun x hx => (he x hx).1, ?_, ?_⟩
  · have := dps_le (k := 2) (xs := l.map entP) fun x hx => (he x hx).2.1
    show P.dps _ + 1 ≤ 3
    omega
  · have := wts_le (k := 57) (xs := l.map entP) fun x hx => (he x hx).2.2
    show P.wts _ ≤ 290
    rw [List.length_map] at this
    omega
theorem mac_size {m : Mac} (hm : m.Ok) (hw : In m.words) : P.fine m.p = true ∧ P.dp m.p ≤ 60 ∧ P.wt m.p ≤ 60000 := by
  have hL : ∀ x ∈ m.lines.map linP, P.fine x = true ∧ P.dp x ≤ 3 ∧ P.wt x ≤ 290 := fun x hx => by
    obtain ⟨l, hl, rfl⟩ := List.mem_map.mp hx
    obtain ⟨i, hi, ei⟩ := List.getElem_of_mem hl
    exact lin_size hm (by rw [List.getElem?_eq_getElem hi, ei])
  have d1 := txts_dps m.words
  have d2 := nats_dps m.boxes
  have d3 := nats_dps m.yes
  have d4 := dps_le (k := 3) (xs := m.lines.map linP) fun x hx => (hL x hx).2.1
  have w1 := txts_wts hw.fit
  have w2 := nats_wts m.boxes
  have w3 := nats_wts m.yes
  have w4 := wts_le (k := 290) (xs := m.lines.map linP) fun x hx => (hL x hx).2.2
  rw [List.length_map] at w4
  have h1 := hm.many
  have h2 := hm.wl
  have h3 := hm.yl
  have h4 := hm.l.ll
  refine ⟨?_, ?_, ?_⟩
  · show P.fines [.tup (txts m.words), .tup (nats m.boxes), .tup (nats m.yes), .tup (m.lines.map linP)] = true
    simp only [P.fines, Bool.and_eq_true]
    exact ⟨txts_fine hw.fit, nats_fine fun n hn => by have := hm.bl n hn; omega, nats_fine fun n hn => by have := hm.yn n hn; omega, fines_iff.mpr fun x hx => (hL x hx).1, trivial⟩
  · show max (P.dps (txts m.words) + 1) (max (P.dps (nats m.boxes) + 1) (max (P.dps (nats m.yes) + 1) (max (P.dps (m.lines.map linP) + 1) 0))) + 1 ≤ 60
    omega
  · show P.wts (txts m.words) + 1 + (P.wts (nats m.boxes) + 1 + (P.wts (nats m.yes) + 1 + (P.wts (m.lines.map linP) + 1 + 0))) ≤ 60000
    omega
/-- a right stand, its values ours -/
structure Sok (m : Mac) (st : St Str) : Prop where
  s : StOk m.words m.boxes st
  v : In st.2
theorem Sok.q {m : Mac} (hm : m.Ok) {st : St Str} (h : Sok m st) : st.1 < m.boxes.length := by
  have := h.s.b
  by_cases z : st.1 < m.boxes.length
  · exact z
  · rw [List.getElem?_eq_none (by omega)] at this; cases this
theorem Sok.l {m : Mac} (hm : m.Ok) {st : St Str} (h : Sok m st) : st.2.length ≤ 2 := hm.bl _ (List.mem_of_getElem? h.s.b)
theorem st_size {m : Mac} (hm : m.Ok) {st : St Str} (h : Sok m st) : P.fine (stP st) = true ∧ P.dp (stP st) ≤ 2 ∧ P.wt (stP st) ≤ 74 := by
  have := h.q hm
  have := hm.many
  have := h.l hm
  have := stP_wt h.v.fit
  exact ⟨stP_fine h.v.fit (by omega), stP_dp st, by omega⟩
theorem str_size {m : Mac} (hm : m.Ok) {sts : List (St Str)} (h : ∀ s ∈ sts, Sok m s) (hl : sts.length ≤ 100) : P.fine (strP sts) = true ∧ P.dp (strP sts) ≤ 3 ∧ P.wt (strP sts) ≤ 7500 := by
  have he : ∀ x ∈ sts.map stP, P.fine x = true ∧ P.dp x ≤ 2 ∧ P.wt x ≤ 74 := fun x hx => by
    obtain ⟨s, hs, rfl⟩ := List.mem_map.mp hx
    exact st_size hm (h s hs)
  have d := dps_le (k := 2) (xs := sts.map stP) fun x hx => (he x hx).2.1
  have w := wts_le (k := 74) (xs := sts.map stP) fun x hx => (he x hx).2.2
  rw [List.length_map] at w
  refine ⟨fines_iff.mpr fun x hx => (he x hx).1, ?_, ?_⟩
  · show P.dps _ + 1 ≤ 3
    omega
  · show P.wts _ ≤ 7500
    omega
theorem things_in {ws vs : List Str} {v : Str} (h1 : In ws) (h2 : In vs) (h3 : v ∈ VALS) : In (things ws vs v) := fun x hx => by
  unfold things at hx
  rcases List.mem_append.mp hx with hx | hx
  · rcases List.mem_append.mp hx with hx | hx
    · exact h1 x hx
    · exact h2 x hx
  · have : x = v := by simpa using hx
    rw [this]; exact h3
theorem an1_in {m : Mac} (hm : m.Ok) {st : St Str} (h : Sok m st) (hw : In m.words) {v : Str} (hv : v ∈ VALS) : (an1 m.lines m.words st v).length ≤ 2 ∧ In (an1 m.lines m.words st v) := by
  obtain ⟨l, k1, k2, k3, k4⟩ := hm.l.at h.s.b (sgn_lt m.words st.2 v)
  constructor
  · unfold an1 M.ans
    rw [picks_len]
    · exact k4.al
    · intro a ha
      rw [things_len]
      exact Nat.lt_of_lt_of_le (k4.an a ha) (hand_le ..)
  · intro x hx
    obtain ⟨i, _, e⟩ := picks_mem hx
    exact things_in hw h.v hv x (List.mem_of_getElem? e)
theorem rd1_sok {m : Mac} (hm : m.Ok) {st : St Str} (h : Sok m st) {v : Str} (hv : v ∈ VALS) : Sok m (rd1 m.lines m.words st v) := by
  obtain ⟨a, b⟩ := rd1_ok v hm.l h.s
  refine ⟨a, fun x hx => ?_⟩
  rcases b x hx with z | z
  · exact h.v x z
  · rw [z]; exact hv
theorem runA_in {m : Mac} (hm : m.Ok) (hw : In m.words) : ∀ {row : List Str} {st : St Str}, Sok m st → In row → (runA m.lines m.words st row).length = row.length ∧ ∀ a ∈ runA m.lines m.words st row, a.length ≤ 2 ∧ In a
  | [], st, _, _ => ⟨rfl, fun a h => by cases h⟩
  | v :: row, st, h, hr => by
    have hv := hr v List.mem_cons_self
    obtain ⟨a, b⟩ := runA_in hm hw (rd1_sok hm h hv) fun x hx => hr x (List.mem_cons_of_mem _ hx)
    refine ⟨by simp [runA, a], fun x hx => ?_⟩
    rcases List.mem_cons.mp hx with z | z
    · rw [z]; exact an1_in hm h hw hv
    · exact b x z
theorem runS_sok {m : Mac} (hm : m.Ok) : ∀ {row : List Str} {st : St Str}, Sok m st → In row → Sok m (runS m.lines m.words st row)
  | [], st, h, _ => h
  | v :: row, st, h, hr => runS_sok (st := rd1 m.lines m.words st v) (row := row) hm (rd1_sok hm h (hr v List.mem_cons_self)) fun x hx => hr x (List.mem_cons_of_mem _ hx)
theorem ans_size {l : List (List Str)} (h : ∀ a ∈ l, a.length ≤ 2 ∧ In a) (hl : l.length ≤ 100) : P.fine (ansP l) = true ∧ P.dp (ansP l) ≤ 2 ∧ P.wt (ansP l) ≤ 6300 := by
  have he : ∀ x ∈ l.map (fun a => P.tup (txts a)), P.fine x = true ∧ P.dp x ≤ 1 ∧ P.wt x ≤ 62 := fun x hx => by
    obtain ⟨a, ha, rfl⟩ := List.mem_map.mp hx
    obtain ⟨q1, q2⟩ := h a ha
    have d := txts_dps a
    have w := txts_wts q2.fit
    refine ⟨txts_fine q2.fit, ?_, ?_⟩
    · show P.dps _ + 1 ≤ 1
      omega
    · show P.wts _ ≤ 62
      omega
  have d := dps_le (k := 1) (xs := l.map fun a => P.tup (txts a)) fun x hx => (he x hx).2.1
  have w := wts_le (k := 62) (xs := l.map fun a => P.tup (txts a)) fun x hx => (he x hx).2.2
  rw [List.length_map] at w
  refine ⟨fines_iff.mpr fun x hx => (he x hx).1, ?_, ?_⟩
  · show P.dps _ + 1 ≤ 2
    omega
  · show P.wts _ ≤ 6300
    omega
theorem ix_lastB {Γ : G} {i : Nat} {xs : List P} {x : P} (h : Γ[i]? = some (some (.o (.lst ((xs ++ [x]).map .p))))) : e2 ixD (rd i) (e1 negI (cE (.int 1))) Γ = .ok Γ (.p x) := by
  unfold e2
  simp only [rd_o h, Rs.bind_ok, e1, cE, negI]
  unfold ixD
  have e : -(1 : Int) = -1 := rfl
  simp only [val_b h, List.map_append, List.map_cons, List.map_nil, e, atI_last]
theorem sl_lastB {Γ : G} {i : Nat} {xs : List P} {x : P} (h : Γ[i]? = some (some (.o (.lst ((xs ++ [x]).map .p))))) : slE (rd i) noP (soP (e1 negI (cE (.int 1)))) Γ = .ok Γ (.o (.lst (xs.map .p))) := by
  unfold slE
  simp only [rd_o h, Rs.bind_ok, noP, soP, e1, cE, negI, val_b h, unP_map]
  have : cut (xs ++ [x]) none (some (-(1 : Int))) = xs := by
    unfold cut
    have h1 : HT.sIx (xs ++ [x]).length 0 none = 0 := rfl
    have h2 : HT.sIx (xs ++ [x]).length (xs ++ [x]).length (some (-1)) = xs.length := by
      unfold HT.sIx
      simp
      omega
    rw [h1, h2]; simp
  rw [this]
theorem pop_lastB {Γ : G} {i : Nat} {xs : List P} {x : P} (h : Γ[i]? = some (some (.o (.lst ((xs ++ [x]).map .p))))) : dropS (e1r isL popO (rd i)) Γ = .nx (Γ.set i (some (.o (.lst (xs.map .p))))) := by
  have h1 : isL Γ (.b i) = true := by unfold isL; rw [val_b h]
  have h2 : popO Γ (.b i) = .ok (Γ.set i (some (.o (.lst (xs.map .p))))) (.p x) := by
    unfold popO
    simp only [h]
    have e1 : ((xs ++ [x]).map D.p)[((xs ++ [x]).map D.p).length - 1]? = some (.p x) := by simp
    have e2 : ((xs ++ [x]).map D.p).eraseIdx (((xs ++ [x]).map D.p).length - 1) = xs.map .p := by rw [erase_last]; simp
    rw [e1, e2]; rfl
  unfold dropS e1r
  rw [rd_o h]
  simp only [Rs.bind_ok]
  rw [if_pos h1, h2]
  rfl
theorem lenL_b {Γ : G} {i : Nat} {xs : List P} (h : Γ[i]? = some (some (.o (.lst (xs.map .p))))) : e1 lenE (rd i) Γ = .ok Γ (.p (.int (xs.length : Nat))) := by
  unfold e1
  rw [rd_o h]
  simp only [Rs.bind_ok]
  unfold lenE
  rw [slen_b h, List.length_map]
theorem lst_p {g : X2} {Γ Γ1 : G} {ps : List P} (h : g Γ = .ok Γ1 (ps.map .p)) (hl : ps.length ≤ 1000000) : lstE g Γ = .ok Γ1 (.o (.lst (ps.map .p))) := by
  unfold lstE
  rw [h]
  have ha : ∀ ps : List P, gat (ps.map .p) = some (ps.map .p) := fun ps => by
    induction ps with
    | nil => rfl
    | cons x xs ih => rw [List.map_cons]; unfold gat; rw [ih]; rfl
  simp [hl, ha]
theorem told_p {f : X1} {Γ Γ' : G} {x : P} {es : List Str} {l : List (Str × Str)} (h : f (lent Γ) = .ok Γ' (.p x)) : toldE es l f Γ = .ok Γ (.p (.tup [.str "told", x])) := by unfold toldE; rw [h]
end Kv.W

set_option Elab.async false
set_option linter.all false
set_option maxRecDepth 100000
set_option maxHeartbeats 4000000
set_option autoImplicit false
/-! the plain law of k46: a lap -/
namespace Kv.W
open PySem PySem.Spec L2 Kv M
variable [Tbl]
noncomputable abbrev lap1 : X3 := asgS (nmT 8) (e1 tupO (lcE (rgI1 (callN [true, false] F__law_pick (conA (rd 1) (conA (cE (.int 5)) nilA)))) [13] (nmT 13) yesB (callN [true, false] F__law_of (conA (rd 1) (conA (lstE (conA (cE (.str "a")) (conA (cE (.str "b")) (conA (cE (.str "c")) (conA (cE (.str "v0")) (conA (cE (.str "go")) nilA)))))) nilA)))))
noncomputable abbrev lap2a : X3 := seqS (asgS (nmT 10) (toldE ["NothingDone", "NotOfIt"] [("NothingDone", "nothing"), ("NotOfIt", "not")] (callN [false] F_taken_back (conA (rd 5) nilA))))
    (seqS (ifS (andB (tst (e2 eqE (e1 lenE (rd 6)) (cE (.int 1)))) (tst (e2 neE (rd 10) (tupE (conA (cE (.str "raised")) (conA (cE (.str "nothing")) nilA)))))) (retS (cE (.bl false))) skipS)
    (ifS (tst (e2 gtI (e1 lenE (rd 6)) (cE (.int 1)))) (seqS (dropS (e1r isL popO (rd 6)))
    (seqS (ifS (tst (e2 neE (e1 repO (rd 10)) (e1 repO (tupE (conA (cE (.str "told")) (conA (e1 tupO (rd 6)) nilA)))))) (retS (cE (.bl false))) skipS)
    (asgS (nmT 5) (e2 ixD (rd 10) (cE (.int 1)))))) skipS))
noncomputable abbrev lap2 : X3 := ifS (tst (e2 eqE (callN [true, false] F__law_pick (conA (rd 1) (conA (cE (.int 3)) nilA))) (cE (.int 0)))) lap2a skipS
noncomputable abbrev lap3 : X3 := seqS (asgS (tupT 2 (conT (nmT 11) (conT (nmT 12) nilT))) (callN [false, false, false] F__law_read (conA (rd 3) (conA (e2 ixD (rd 6) (e1 negI (cE (.int 1)))) (conA (rd 8) nilA)))))
    (seqS (asgS (nmT 9) (rd 5))
    (seqS (asgS (tupT 2 (conT (nmT 10) (conT (nmT 5) nilT))) (callN [false, false, false] F_fed (conA (rd 3) (conA (rd 5) (conA (rd 8) nilA)))))
    (seqS (dropS (e2r isL appO (rd 6) (own (rd 12))))
    (seqS (ifS (orB (tst (e2 neE (e1 repO (lstE (conA (rd 10) (conA (rd 5) nilA)))) (e1 repO (lstE (conA (rd 11) (conA (e1 tupO (rd 6)) nilA)))))) (tst (e2 neE (e1 repO (rd 9)) (e1 repO (e1 tupO (slE (rd 6) noP (soP (e1 negI (cE (.int 1)))))))))) (retS (cE (.bl false))) skipS)
    (seqS (ifS (tst (e2 neE (e1 repO (lstE (conA (callN [false] F_values_kept (conA (rd 5) nilA)) (conA (callN [false, false] F_says_yes_now (conA (rd 3) (conA (rd 5) nilA))) nilA)))) (e1 repO (lstE (conA (e2 ixD (rd 12) (cE (.int 1))) (conA (e2 inE (e2 ixD (rd 12) (cE (.int 0))) (e2 ixD (rd 3) (cE (.int 2)))) nilA)))))) (retS (cE (.bl false))) skipS)
    (ifS (notB (tst (callN [false, false] F__law_short_right (conA (rd 3) (conA (rd 12) nilA))))) (retS (cE (.bl false))) skipS))))))
noncomputable abbrev lapB : X3 := seqS lap1 (seqS lap2 lap3)
/-- the slots in a lap -/
abbrev lapG (A : Option E) (d : D) (m : Mac) (kept : Option E) (sts : List (St Str)) (x7 x8 x9 x10 x11 x12 : Option E) : G :=
  [A, some (.o d), some (.p (.tup (txts m.words))), some (.p m.p), kept, some (.p (strP sts)), lstP (sts.map stP), x7, x8, x9, x10, x11, x12, none, none, none, none, none, none, none, none]
theorem lent_get : ∀ {Γ : G} {i : Nat} {x : P}, Γ[i]? = some (some (.p x)) → (lent Γ)[i]? = some (some (.p x))
  | [], _, _, h => by simp at h
  | none :: Γ, 0, _, h => by simp at h
  | none :: Γ, i + 1, x, h => by
    show (lent Γ)[i]? = _
    exact lent_get (by simpa using h)
  | some (.o d) :: Γ, 0, _, h => by simp at h
  | some (.o d) :: Γ, i + 1, x, h => by
    show (lent Γ)[i]? = _
    exact lent_get (by simpa using h)
  | some (.p y) :: Γ, 0, _, h => h
  | some (.p y) :: Γ, i + 1, x, h => by
    show (lent Γ)[i]? = _
    exact lent_get (by simpa using h)
  | some (.s y) :: Γ, 0, _, h => h
  | some (.s y) :: Γ, i + 1, x, h => by
    show (lent Γ)[i]? = _
    exact lent_get (by simpa using h)
  | some (.b y) :: Γ, 0, _, h => h
  | some (.b y) :: Γ, i + 1, x, h => by
    show (lent Γ)[i]? = _
    exact lent_get (by simpa using h)
theorem lap1_ok {A : Option E} {d : D} (hd : IsSrc d) {m : Mac} {kept : Option E} {sts : List (St Str)} (x7 x8 x9 x10 x11 x12 : Option E) : ∃ (d' : D) (row : List Str), IsSrc d' ∧ row.length ≤ 4 ∧ In row ∧
    lap1 (lapG A d m kept sts x7 x8 x9 x10 x11 x12) = .nx (lapG A d' m kept sts x7 (some (.p (.tup (txts row)))) x9 x10 x11 x12) := by
  let Γ0 := lapG A d m kept sts x7 x8 x9 x10 x11 x12
  obtain ⟨d1, r, p1, p2, p3⟩ := pickN1 (Γ := Γ0) (d := d) (many := 5) (f := cE (.int 5)) hd rfl rfl (by decide)
  let R0 : G := [some (.p (.tup (txts m.words))), some (.p m.p), kept, some (.p (strP sts)), lstP (sts.map stP), x7, x8, x9, x10, x11, x12, none, none, none, none, none, none, none, none]
  obtain ⟨d2, xs, q1, q2, q3, q4⟩ := comp_src1 (w := 11) (it := rgI1 (callN [true, false] F__law_pick (conA (rd 1) (conA (cE (.int 5)) nilA)))) (f := callN [true, false] F__law_of (conA (rd 1) (conA (lstE (conA (cE (.str "a")) (conA (cE (.str "b")) (conA (cE (.str "c")) (conA (cE (.str "v0")) (conA (cE (.str "go")) nilA)))))) nilA)))
    (A := A) (R := R0) (R0 := R0) (Γ0 := Γ0) (fun x => ∃ s : Str, x = .str s ∧ s ∈ VALS) (List.range r) p1 (rgN p3 (by omega)) rfl (by rw [List.length_range]; omega) fun e he dd hdd => by
      obtain ⟨d', x, g1, g2, g3⟩ := ofN1 (Γ := A :: some (.o dd) :: R0.set 11 (some (.p (.int (e : Int))))) (d := dd) (xs := txts ["a", "b", "c", "v0", "go"]) (f := lstE (conA (cE (.str "a")) (conA (cE (.str "b")) (conA (cE (.str "c")) (conA (cE (.str "v0")) (conA (cE (.str "go")) nilA)))))) hdd rfl rfl (by simp [txts]) (by decide)
      obtain ⟨s, hs, rfl⟩ := List.mem_map.mp g2
      refine ⟨d', _, g1, ⟨s, rfl, ?_⟩, own_p g3⟩
      have : ∀ s ∈ (["a", "b", "c", "v0", "go"] : List Str), s ∈ VALS := by decide +kernel
      exact this s hs
  have hx : ∃ row : List Str, xs = txts row ∧ In row := by
    clear q4 q2
    induction xs with
    | nil => exact ⟨[], rfl, fun v h => by cases h⟩
    | cons x xs ih =>
      obtain ⟨row, e, hr⟩ := ih fun x hx => q3 x (List.mem_cons_of_mem _ hx)
      obtain ⟨s, hs, hv⟩ := q3 x List.mem_cons_self
      exact ⟨s :: row, by rw [e, hs]; rfl, fun v h => by
        rcases List.mem_cons.mp h with h | h
        · rw [h]; exact hv
        · exact hr v h⟩
  obtain ⟨row, rfl, hr⟩ := hx
  rw [List.length_range, txts_len] at q2
  exact ⟨d2, row, q1, by omega, hr, asgP (tupO_ok q4) rfl⟩
/-- taken back, or not -/
theorem lap2_ok {A : Option E} {d : D} (hd : IsSrc d) {m : Mac} (hm : m.Ok) {kept : Option E} {sts : List (St Str)} (hs : ∀ s ∈ sts, Sok m s) (h0 : sts ≠ []) (hl : sts.length ≤ 50) (x7 x8 x9 x10 x11 x12 : Option E) :
    ∃ (d' : D) (sts' : List (St Str)) (y10 : Option E), IsSrc d' ∧ (∀ s ∈ sts', Sok m s) ∧ sts' ≠ [] ∧ sts'.length ≤ sts.length ∧
      lap2 (lapG A d m kept sts x7 x8 x9 x10 x11 x12) = .nx (lapG A d' m kept sts' x7 x8 x9 y10 x11 x12) := by
  let Γ0 := lapG A d m kept sts x7 x8 x9 x10 x11 x12
  obtain ⟨d1, r, p1, p2, p3⟩ := pickN1 (Γ := Γ0) (d := d) (many := 3) (f := cE (.int 3)) hd rfl rfl (by decide)
  let Γ1 := lapG A d1 m kept sts x7 x8 x9 x10 x11 x12
  have hc : tst (e2 eqE (callN [true, false] F__law_pick (conA (rd 1) (conA (cE (.int 3)) nilA))) (cE (.int 0))) Γ0 = .ok Γ1 (decide ((r : Int) = 0)) := tst_ok (eqI_ok (a := (r : Int)) (b := 0) p3 rfl)
  by_cases hr : (r : Int) = 0
  · rw [decide_eq_true hr] at hc
    obtain ⟨pre, st, rfl⟩ : ∃ pre st, sts = pre ++ [st] := ⟨sts.dropLast, sts.getLast h0, (List.dropLast_concat_getLast h0).symm⟩
    by_cases hp : pre = []
    · subst hp
      let To : Option E := some (.p (.tup [.str "raised", .str "nothing"]))
      let Γ2 := lapG A d1 m kept [st] x7 x8 x9 To x11 x12
      refine ⟨d1, [st], To, p1, hs, by simp, Nat.le_refl _, ?_⟩
      show lap2 Γ0 = .nx Γ2
      unfold lap2
      rw [ifS_t hc]
      show lap2a Γ1 = _
      unfold lap2a
      have ht : toldE ["NothingDone", "NotOfIt"] [("NothingDone", "nothing"), ("NotOfIt", "not")] (callN [false] F_taken_back (conA (rd 5) nilA)) Γ1 = .ok Γ1 (.p (.tup [.str "raised", .str "nothing"])) := by
        unfold toldE
        have : callN [false] F_taken_back (conA (rd 5) nilA) (lent Γ1) = .ex ⟨"NothingDone", []⟩ := call_ex (es := [.p (strP [st])]) (Γ1 := lent Γ1) (con_ok (rd_p (lent_get rfl)) rfl) (back_ex st)
        rw [this]
        have h1 : (⟨"NothingDone", []⟩ : Exn).cls ∈ (["NothingDone", "NotOfIt"] : List Str) := by decide +kernel
        have h2 : toldR [("NothingDone", "nothing"), ("NotOfIt", "not")] ⟨"NothingDone", []⟩ = some (.tup [.str "raised", .str "nothing"]) := by
          unfold toldR
          have : ([(("NothingDone" : Str), ("nothing" : Str)), ("NotOfIt", "not")].find? fun q => decide (q.1 = (⟨"NothingDone", []⟩ : Exn).cls)) = some (("NothingDone" : Str), ("nothing" : Str)) := by decide +kernel
          simp only [this]
          rfl
        simp only [h1, h2, if_true]
      rw [seqS_nx (Γ1 := Γ2) (asgP ht rfl)]
      have hlen : e1 lenE (rd 6) Γ2 = .ok Γ2 (.p (.int 1)) := lenL_b (xs := [stP st]) rfl
      have h1 : andB (tst (e2 eqE (e1 lenE (rd 6)) (cE (.int 1)))) (tst (e2 neE (rd 10) (tupE (conA (cE (.str "raised")) (conA (cE (.str "nothing")) nilA))))) Γ2 = .ok Γ2 false := by
        unfold andB
        rw [tst_ok (eqI_ok (b := 1) hlen rfl)]
        simp only [Rs.bind_ok]
        rw [if_pos (by decide)]
        have := ne_tups (f := rd 10) (g := tupE (conA (cE (.str "raised")) (conA (cE (.str "nothing")) nilA))) (Γ := Γ2) (Γ1 := Γ2) (Γ2 := Γ2) (xs := [.str "raised", .str "nothing"]) (ys := [.str "raised", .str "nothing"]) (rd_p rfl) rfl (by decide +kernel) (by decide) (by decide +kernel) (by decide)
        rw [tst_ok this, P.eqvs_refl]; rfl
      rw [seqS_nx (Γ1 := Γ2) (by rw [ifS_f h1]; rfl)]
      have h2 : tst (e2 gtI (e1 lenE (rd 6)) (cE (.int 1))) Γ2 = .ok Γ2 false := by rw [tst_ok (gtI_ok (b := 1) hlen rfl)]; rfl
      rw [ifS_f h2]; rfl
    · let To : Option E := some (.p (.tup [.str "told", strP pre]))
      let Γ2 := lapG A d1 m kept (pre ++ [st]) x7 x8 x9 To x11 x12
      let Γ3 : G := [A, some (.o d1), some (.p (.tup (txts m.words))), some (.p m.p), kept, some (.p (strP (pre ++ [st]))), lstP (pre.map stP), x7, x8, x9, To, x11, x12, none, none, none, none, none, none, none, none]
      have hpl : 0 < pre.length := List.length_pos_iff.mpr hp
      refine ⟨d1, pre, To, p1, fun s h => hs s (List.mem_append_left _ h), hp, by simp, ?_⟩
      show lap2 Γ0 = .nx (lapG A d1 m kept pre x7 x8 x9 To x11 x12)
      unfold lap2
      rw [ifS_t hc]
      show lap2a Γ1 = _
      unfold lap2a
      obtain ⟨Γb, hb⟩ := back_ok (pre := pre) (st := st) hp
      have ht : toldE ["NothingDone", "NotOfIt"] [("NothingDone", "nothing"), ("NotOfIt", "not")] (callN [false] F_taken_back (conA (rd 5) nilA)) Γ1 = .ok Γ1 (.p (.tup [.str "told", strP pre])) :=
        told_p (Γ' := lent Γ1) (call_p (es := [.p (strP (pre ++ [st]))]) (Γ1 := lent Γ1) (con_ok (rd_p (lent_get rfl)) rfl) hb)
      rw [seqS_nx (Γ1 := Γ2) (asgP ht rfl)]
      have hmap : (pre ++ [st]).map stP = pre.map stP ++ [stP st] := by simp
      have hlen : e1 lenE (rd 6) Γ2 = .ok Γ2 (.p (.int ((pre.length + 1 : Nat) : Int))) := by rw [lenL_b (xs := (pre ++ [st]).map stP) rfl]; simp
      have h1 : andB (tst (e2 eqE (e1 lenE (rd 6)) (cE (.int 1)))) (tst (e2 neE (rd 10) (tupE (conA (cE (.str "raised")) (conA (cE (.str "nothing")) nilA))))) Γ2 = .ok Γ2 false := by
        unfold andB
        rw [tst_ok (eqI_ok (b := 1) hlen rfl), decide_eq_false (by omega)]
        rfl
      rw [seqS_nx (Γ1 := Γ2) (by rw [ifS_f h1]; rfl)]
      have h2 : tst (e2 gtI (e1 lenE (rd 6)) (cE (.int 1))) Γ2 = .ok Γ2 true := by rw [tst_ok (gtI_ok (b := 1) hlen rfl), decide_eq_true (by omega)]
      rw [ifS_t h2]
      rw [seqS_nx (Γ1 := Γ3) (by rw [pop_lastB (Γ := Γ2) (xs := pre.map stP) (x := stP st) (by rw [← hmap]; rfl)]; rfl)]
      have hsz := str_size hm (sts := pre) (fun s h => hs s (List.mem_append_left _ h)) (by simp at hl; omega)
      have h3 : tst (e2 neE (e1 repO (rd 10)) (e1 repO (tupE (conA (cE (.str "told")) (conA (e1 tupO (rd 6)) nilA))))) Γ3 = .ok Γ3 false := by
        have a1 : tupE (conA (cE (.str "told")) (conA (e1 tupO (rd 6)) nilA)) Γ3 = .ok Γ3 (.p (.tup [.str "told", strP pre])) := tup2 rfl (tupO_b (xs := pre.map stP) rfl)
        have hf : P.fine (.tup [.str "told", strP pre]) = true := by
          show P.fines [.str "told", strP pre] = true
          simp only [P.fines, Bool.and_eq_true]
          exact ⟨by decide +kernel, hsz.1, trivial⟩
        have hdp : P.dp (.tup [.str "told", strP pre]) ≤ 60 := by
          show max 0 (max (P.dp (strP pre)) 0) + 1 ≤ 60
          omega
        have hwt : P.wt (.tup [.str "told", strP pre]) ≤ 60000 := by
          have h4 : ("told" : Str).cps.size = 4 := by decide +kernel
          show ("told" : Str).cps.size + 1 + (P.wt (strP pre) + 1 + 0) ≤ 60000
          omega
        rw [tst_ok (ne_strs (rep_p (rd_p rfl) hf hdp hwt) (rep_p a1 hf hdp hwt))]
        simp
      rw [seqS_nx (Γ1 := Γ3) (by rw [ifS_f h3]; rfl)]
      exact asgP (ix_ok (i := 1) (xs := [.str "told", strP pre]) (rd_p rfl) rfl rfl) rfl
  · rw [decide_eq_false hr] at hc
    refine ⟨d1, sts, x10, p1, hs, h0, Nat.le_refl _, ?_⟩
    show lap2 Γ0 = _
    unfold lap2
    rw [ifS_f hc]; rfl
end Kv.W

set_option Elab.async false
set_option linter.all false
set_option maxRecDepth 100000
set_option maxHeartbeats 4000000
set_option autoImplicit false
/-! the plain law of k46: a lap, its end; all laps -/
namespace Kv.W
open PySem PySem.Spec L2 Kv M
variable [Tbl]
theorem rep_2 {f : X1} {Γ Γ1 : G} {x y : P} (hf : f Γ = .ok Γ1 (.o (.lst ([x, y].map .p)))) (hx : P.fine x = true) (hy : P.fine y = true) (hd : P.dp x ≤ 50) (hd2 : P.dp y ≤ 50) (hw : P.wt x ≤ 20000) (hw2 : P.wt y ≤ 20000) : e1 repO f Γ = .ok Γ1 (.p (.str (PyData.list (P.pys [x, y])).shown)) := by
  refine rep_l hf rfl ?_ ?_ ?_
  · simp only [P.fines, Bool.and_eq_true]
    exact ⟨hx, hy, trivial⟩
  · show max (P.dp x) (max (P.dp y) 0) ≤ 59
    omega
  · show P.wt x + 1 + (P.wt y + 1 + 0) ≤ 60000
    omega
theorem lap3_ok {A : Option E} {d : D} {m : Mac} (hm : m.Ok) (hw : In m.words) {kept : Option E} {sts : List (St Str)} (hs : ∀ s ∈ sts, Sok m s) (h0 : sts ≠ []) (hl : sts.length ≤ 50) {row : List Str} (hr : In row) (hrl : row.length ≤ 4) (x7 x9 x10 x11 x12 : Option E) :
    ∃ (st' : St Str) (y9 y10 y11 y12 : Option E), Sok m st' ∧
      lap3 (lapG A d m kept sts x7 (some (.p (.tup (txts row)))) x9 x10 x11 x12) = .nx (lapG A d m kept (sts ++ [st']) x7 (some (.p (.tup (txts row)))) y9 y10 y11 y12) := by
  obtain ⟨pre, st, rfl⟩ : ∃ pre st, sts = pre ++ [st] := ⟨sts.dropLast, sts.getLast h0, (List.dropLast_concat_getLast h0).symm⟩
  have hst := hs st (by simp)
  let st' : St Str := runS m.lines m.words st row
  have hst' : Sok m st' := runS_sok hm hst hr
  let As := runA m.lines m.words st row
  have hA := runA_in hm hw hst hr
  have hAs := ans_size (l := As) hA.2 (by rw [show As.length = row.length from hA.1]; omega)
  have hs' : ∀ s ∈ pre ++ [st] ++ [st'], Sok m s := fun s h => by
    rcases List.mem_append.mp h with h | h
    · exact hs s h
    · have : s = st' := by simpa using h
      rw [this]; exact hst'
  have hz' := str_size hm hs' (by simp at hl ⊢; omega)
  have hz := str_size hm hs (by omega)
  obtain ⟨Γr, hrd⟩ := read_ok hm hst.s row (by omega)
  obtain ⟨Γf, hfd⟩ := fed_ok hm hst.s pre row (by omega) (by simp at hl; omega)
  obtain ⟨Γk, hkp⟩ := kept_ok (pre ++ [st]) st'
  obtain ⟨Γy, hys⟩ := yes_ok m (pre ++ [st]) st'
  obtain ⟨Γq, hrt⟩ := right_ok hm hst'.s hst'.v.fit
  have hmap : (pre ++ [st]).map stP = pre.map stP ++ [stP st] := by simp
  have hmap' : (pre ++ [st] ++ [st']).map stP = (pre ++ [st]).map stP ++ [stP st'] := by simp
  let Ro : Option E := some (.p (.tup (txts row)))
  let X11 : Option E := some (.p (ansP As))
  let X12 : Option E := some (.p (stP st'))
  let X9 : Option E := some (.p (strP (pre ++ [st])))
  let Γ0 := lapG A d m kept (pre ++ [st]) x7 Ro x9 x10 x11 x12
  let Γ1 := lapG A d m kept (pre ++ [st]) x7 Ro x9 x10 X11 X12
  let Γ2 := lapG A d m kept (pre ++ [st]) x7 Ro X9 x10 X11 X12
  let Γ3 : G := [A, some (.o d), some (.p (.tup (txts m.words))), some (.p m.p), kept, some (.p (strP (pre ++ [st] ++ [st']))), lstP ((pre ++ [st]).map stP), x7, Ro, X9, X11, X11, X12, none, none, none, none, none, none, none, none]
  let Γ4 := lapG A d m kept (pre ++ [st] ++ [st']) x7 Ro X9 X11 X11 X12
  refine ⟨st', X9, X11, X11, X12, hst', ?_⟩
  show lap3 Γ0 = .nx Γ4
  unfold lap3
  have a1 : e2 ixD (rd 6) (e1 negI (cE (.int 1))) Γ0 = .ok Γ0 (.p (stP st)) := ix_lastB (xs := pre.map stP) (by rw [← hmap]; rfl)
  have h1 := call_p (F := F__law_read) (fl := [false, false, false]) (Γ := Γ0) (Γ1 := Γ0) (g := conA (rd 3) (conA (e2 ixD (rd 6) (e1 negI (cE (.int 1)))) (conA (rd 8) nilA))) (con_ok (rd_p rfl) (con_ok a1 (con_ok (rd_p rfl) rfl))) hrd
  rw [seqS_nx (Γ1 := Γ1) (asgP h1 rfl)]
  rw [seqS_nx (Γ1 := Γ2) (asgP (rd_p (i := 5) (Γ := Γ1) (x := strP (pre ++ [st])) rfl) rfl)]
  have h3 := call_p (F := F_fed) (fl := [false, false, false]) (Γ := Γ2) (Γ1 := Γ2) (g := conA (rd 3) (conA (rd 5) (conA (rd 8) nilA))) (con_ok (rd_p rfl) (con_ok (rd_p rfl) (con_ok (rd_p rfl) rfl))) hfd
  rw [seqS_nx (Γ1 := Γ3) (asgP h3 rfl)]
  rw [seqS_nx (Γ1 := Γ4) (by rw [app_ok (Γ := Γ3) (xs := (pre ++ [st]).map stP) (y := stP st') rfl (rd_p rfl) (by simp at hl ⊢; omega), ← hmap']; rfl)]
  have t6 : e1 tupO (rd 6) Γ4 = .ok Γ4 (.p (strP (pre ++ [st] ++ [st']))) := tupO_b (xs := (pre ++ [st] ++ [st']).map stP) rfl
  have h5 : orB (tst (e2 neE (e1 repO (lstE (conA (rd 10) (conA (rd 5) nilA)))) (e1 repO (lstE (conA (rd 11) (conA (e1 tupO (rd 6)) nilA)))))) (tst (e2 neE (e1 repO (rd 9)) (e1 repO (e1 tupO (slE (rd 6) noP (soP (e1 negI (cE (.int 1))))))))) Γ4 = .ok Γ4 false := by
    refine orB_f (Γ1 := Γ4) ?_ ?_
    · have l1 : lstE (conA (rd 10) (conA (rd 5) nilA)) Γ4 = .ok Γ4 (.o (.lst ([ansP As, strP (pre ++ [st] ++ [st'])].map .p))) := lst_p (con_ok (rd_p rfl) (con_ok (rd_p rfl) rfl)) (by simp)
      have l2 : lstE (conA (rd 11) (conA (e1 tupO (rd 6)) nilA)) Γ4 = .ok Γ4 (.o (.lst ([ansP As, strP (pre ++ [st] ++ [st'])].map .p))) := lst_p (con_ok (rd_p rfl) (con_ok t6 rfl)) (by simp)
      have r1 := rep_2 l1 hAs.1 hz'.1 (by omega) (by omega) (by omega) (by omega)
      have r2 := rep_2 l2 hAs.1 hz'.1 (by omega) (by omega) (by omega) (by omega)
      rw [tst_ok (ne_strs r1 r2)]; simp
    · have s1 : slE (rd 6) noP (soP (e1 negI (cE (.int 1)))) Γ4 = .ok Γ4 (.o (.lst (((pre ++ [st]).map stP).map .p))) := sl_lastB (x := stP st') (by rw [← hmap']; rfl)
      have r1 := rep_p (f := rd 9) (Γ := Γ4) (Γ1 := Γ4) (x := strP (pre ++ [st])) (rd_p rfl) hz.1 (by omega) (by omega)
      have r2 := rep_p (f := e1 tupO (slE (rd 6) noP (soP (e1 negI (cE (.int 1)))))) (Γ := Γ4) (Γ1 := Γ4) (x := strP (pre ++ [st])) (tupO_ok s1) hz.1 (by omega) (by omega)
      rw [tst_ok (ne_strs r1 r2)]; simp
  rw [seqS_nx (Γ1 := Γ4) (by rw [ifS_f h5]; rfl)]
  have h6 : tst (e2 neE (e1 repO (lstE (conA (callN [false] F_values_kept (conA (rd 5) nilA)) (conA (callN [false, false] F_says_yes_now (conA (rd 3) (conA (rd 5) nilA))) nilA)))) (e1 repO (lstE (conA (e2 ixD (rd 12) (cE (.int 1))) (conA (e2 inE (e2 ixD (rd 12) (cE (.int 0))) (e2 ixD (rd 3) (cE (.int 2)))) nilA))))) Γ4 = .ok Γ4 false := by
    have c1 : callN [false] F_values_kept (conA (rd 5) nilA) Γ4 = .ok Γ4 (.p (.tup (txts st'.2))) := call_p (con_ok (rd_p rfl) rfl) hkp
    have c2 : callN [false, false] F_says_yes_now (conA (rd 3) (conA (rd 5) nilA)) Γ4 = .ok Γ4 (.p (.bl (decide (st'.1 ∈ m.yes)))) := call_p (con_ok (rd_p rfl) (con_ok (rd_p rfl) rfl)) hys
    have c3 : e2 ixD (rd 12) (cE (.int 1)) Γ4 = .ok Γ4 (.p (.tup (txts st'.2))) := ix_ok (i := 1) (xs := [nat' st'.1, .tup (txts st'.2)]) (rd_p rfl) rfl rfl
    have c4 : e2 inE (e2 ixD (rd 12) (cE (.int 0))) (e2 ixD (rd 3) (cE (.int 2))) Γ4 = .ok Γ4 (.p (.bl (decide (st'.1 ∈ m.yes)))) :=
      in_nats (v := st'.1) (ix_ok (i := 0) (xs := [nat' st'.1, .tup (txts st'.2)]) (rd_p rfl) rfl rfl) (ix_ok (i := 2) (xs := [.tup (txts m.words), .tup (nats m.boxes), .tup (nats m.yes), .tup (m.lines.map linP)]) (rd_p rfl) rfl rfl) rfl
    have l1 : lstE (conA (callN [false] F_values_kept (conA (rd 5) nilA)) (conA (callN [false, false] F_says_yes_now (conA (rd 3) (conA (rd 5) nilA))) nilA)) Γ4 = .ok Γ4 (.o (.lst ([.tup (txts st'.2), .bl (decide (st'.1 ∈ m.yes))].map .p))) := lst_p (con_ok c1 (con_ok c2 rfl)) (by simp)
    have l2 : lstE (conA (e2 ixD (rd 12) (cE (.int 1))) (conA (e2 inE (e2 ixD (rd 12) (cE (.int 0))) (e2 ixD (rd 3) (cE (.int 2)))) nilA)) Γ4 = .ok Γ4 (.o (.lst ([.tup (txts st'.2), .bl (decide (st'.1 ∈ m.yes))].map .p))) := lst_p (con_ok c3 (con_ok c4 rfl)) (by simp)
    have f1 : P.fine (.tup (txts st'.2)) = true := txts_fine hst'.v.fit
    have f2 : P.fine (.bl (decide (st'.1 ∈ m.yes))) = true := rfl
    have q1 := txts_dps st'.2
    have q2 := txts_wts hst'.v.fit
    have q3 := hst'.l hm
    have g1 : P.dp (.tup (txts st'.2)) ≤ 50 := by show P.dps _ + 1 ≤ 50; omega
    have g2 : P.wt (.tup (txts st'.2)) ≤ 20000 := by show P.wts _ ≤ 20000; omega
    have g3 : P.dp (.bl (decide (st'.1 ∈ m.yes))) ≤ 50 := Nat.zero_le _
    have g4 : P.wt (.bl (decide (st'.1 ∈ m.yes))) ≤ 20000 := Nat.zero_le _
    rw [tst_ok (ne_strs (rep_2 l1 f1 f2 g1 g3 g2 g4) (rep_2 l2 f1 f2 g1 g3 g2 g4))]; simp
  rw [seqS_nx (Γ1 := Γ4) (by rw [ifS_f h6]; rfl)]
  have h7 : notB (tst (callN [false, false] F__law_short_right (conA (rd 3) (conA (rd 12) nilA)))) Γ4 = .ok Γ4 false := by
    rw [notB_ok (tst_ok (call_p (con_ok (rd_p rfl) (con_ok (rd_p rfl) rfl)) hrt))]; rfl
  rw [ifS_f h7]; rfl
theorem lapB_ok {A : Option E} {d : D} (hd : IsSrc d) {m : Mac} (hm : m.Ok) (hw : In m.words) {kept : Option E} {sts : List (St Str)} (hs : ∀ s ∈ sts, Sok m s) (h0 : sts ≠ []) (hl : sts.length ≤ 50) (x7 x8 x9 x10 x11 x12 : Option E) :
    ∃ (d' : D) (sts' : List (St Str)) (y8 y9 y10 y11 y12 : Option E), IsSrc d' ∧ (∀ s ∈ sts', Sok m s) ∧ sts' ≠ [] ∧ sts'.length ≤ sts.length + 1 ∧
      lapB (lapG A d m kept sts x7 x8 x9 x10 x11 x12) = .nx (lapG A d' m kept sts' x7 y8 y9 y10 y11 y12) := by
  obtain ⟨d1, row, a1, a2, a3, a4⟩ := lap1_ok (A := A) hd (m := m) (kept := kept) (sts := sts) x7 x8 x9 x10 x11 x12
  obtain ⟨d2, sts1, y10, b1, b2, b3, b4, b5⟩ := lap2_ok (A := A) a1 hm (kept := kept) hs h0 hl x7 (some (.p (.tup (txts row)))) x9 x10 x11 x12
  obtain ⟨st', z9, z10, z11, z12, c1, c2⟩ := lap3_ok (A := A) (d := d2) hm hw (kept := kept) b2 b3 (by omega) a3 a2 x7 x9 y10 x11 x12
  refine ⟨d2, sts1 ++ [st'], some (.p (.tup (txts row))), z9, z10, z11, z12, b1, fun s h => ?_, by simp, by simp; omega, ?_⟩
  · rcases List.mem_append.mp h with h | h
    · exact b2 s h
    · have : s = st' := by simpa using h
      rw [this]; exact c1
  · unfold lapB
    rw [seqS_nx a4, seqS_nx b5]
    exact c2
theorem laps_ok {A : Option E} {m : Mac} (hm : m.Ok) (hw : In m.words) {kept : Option E} : ∀ (items : List E) (d : D) (sts : List (St Str)) (x7 x8 x9 x10 x11 x12 : Option E), IsSrc d → (∀ s ∈ sts, Sok m s) → sts ≠ [] → sts.length + items.length ≤ 50 →
    ∃ (d' : D) (sts' : List (St Str)) (y7 y8 y9 y10 y11 y12 : Option E), IsSrc d' ∧ (∀ s ∈ sts', Sok m s) ∧ sts' ≠ [] ∧ sts'.length ≤ 50 ∧
      forL (nmT 7) lapB items (lapG A d m kept sts x7 x8 x9 x10 x11 x12) = .nx (lapG A d' m kept sts' y7 y8 y9 y10 y11 y12)
  | [], d, sts, x7, x8, x9, x10, x11, x12, hd, hs, h0, hl => ⟨d, sts, x7, x8, x9, x10, x11, x12, hd, hs, h0, by simpa using hl, rfl⟩
  | e :: r, d, sts, x7, x8, x9, x10, x11, x12, hd, hs, h0, hl => by
    simp only [List.length_cons] at hl
    obtain ⟨d1, sts1, y8, y9, y10, y11, y12, a1, a2, a3, a4, a5⟩ := lapB_ok (A := A) hd hm hw (kept := kept) hs h0 (by omega) (some e) x8 x9 x10 x11 x12
    obtain ⟨d2, sts2, z7, z8, z9, z10, z11, z12, b1, b2, b3, b4, b5⟩ := laps_ok hm hw r d1 sts1 (some e) y8 y9 y10 y11 y12 a1 a2 a3 (by omega)
    refine ⟨d2, sts2, z7, z8, z9, z10, z11, z12, b1, b2, b3, b4, ?_⟩
    rw [forL_cons (Γ1 := lapG A d m kept sts (some e) x8 x9 x10 x11 x12) rfl a5]
    exact b5
end Kv.W

set_option Elab.async false
set_option linter.all false
set_option maxRecDepth 100000
set_option maxHeartbeats 4000000
set_option autoImplicit false
/-! the plain law of k46: the end -/
namespace Kv.W
open PySem PySem.Spec L2 Kv M
variable [Tbl]
abbrev endG (A : Option E) (d : D) (m : Mac) (kept : Option E) (sts : List (St Str)) (x7 x8 x9 x10 x11 x12 x14 x16 x17 x18 x19 x20 : Option E) : G :=
  [A, some (.o d), some (.p (.tup (txts m.words))), some (.p m.p), kept, some (.p (strP sts)), lstP (sts.map stP), x7, x8, x9, x10, x11, x12, none, x14, none, x16, x17, x18, x19, x20]
/-- a pair of a thing and whether it is a stream -/
def Good (m : Mac) (d : D) : Prop := ∃ (e : E) (b : Bool), ((∀ j, e ≠ .b j) ∧ ∀ d, e ≠ .o d) ∧ (∀ Γ, tupT 2 (conT (nmT 19) (conT (nmT 20) nilT)) Γ (ofS d) = some ((Γ.set 19 (some e)).set 20 (some (.p (.bl b))))) ∧ ∃ Γs, F_is_stream [.p m.p, e] = .ok Γs (.p (.bl b))
theorem good_p {m : Mac} {x : P} {b : Bool} (h : ∃ Γs, F_is_stream [.p m.p, .p x] = .ok Γs (.p (.bl b))) : Good m (.p (.tup [x, .bl b])) :=
  ⟨.p x, b, ⟨fun j z => (by cases z), fun d z => (by cases z)⟩, fun Γ => rfl, h⟩
theorem good_s {m : Mac} {x : D} {b : Bool} (hx : ∀ y, x ≠ .p y) (h : ∃ Γs, F_is_stream [.p m.p, .s x] = .ok Γs (.p (.bl b))) : Good m (.tup [x, .p (.bl b)]) := by
  have e : ofS x = .s x := by
    cases x with
    | p y => exact absurd rfl (hx y)
    | _ => rfl
  refine ⟨.s x, b, ⟨fun j z => (by cases z), fun d z => (by cases z)⟩, fun Γ => ?_, h⟩
  show (if ([x, .p (.bl b)] : List D).length = 2 then (conT (nmT 19) (conT (nmT 20) nilT)) Γ ([x, .p (.bl b)].map ofS) else none) = _
  rw [if_pos (show ([x, .p (.bl b)] : List D).length = 2 from rfl), List.map_cons, e]
  rfl
noncomputable abbrev endB : X3 := ifS (tst (e2 neE (e1 repO (callN [false, false] F_is_stream (conA (rd 3) (conA (rd 19) nilA)))) (e1 repO (rd 20)))) (retS (cE (.bl false))) skipS
theorem end_loop {A : Option E} {d : D} {m : Mac} {kept : Option E} {sts : List (St Str)} (x7 x8 x9 x10 x11 x12 x14 x16 x17 x18 : Option E) : ∀ (ds : List D) (x19 x20 : Option E), (∀ d ∈ ds, Good m d) → ∃ y19 y20 : Option E,
    forL (tupT 2 (conT (nmT 19) (conT (nmT 20) nilT))) endB (ds.map ofS) (endG A d m kept sts x7 x8 x9 x10 x11 x12 x14 x16 x17 x18 x19 x20) = .nx (endG A d m kept sts x7 x8 x9 x10 x11 x12 x14 x16 x17 x18 y19 y20)
  | [], x19, x20, _ => ⟨x19, x20, rfl⟩
  | v :: ds, x19, x20, h => by
    obtain ⟨e, b, ⟨nb, no⟩, ht, Γs, hs⟩ := h v List.mem_cons_self
    obtain ⟨y19, y20, ih⟩ := end_loop (A := A) (d := d) (m := m) (kept := kept) (sts := sts) x7 x8 x9 x10 x11 x12 x14 x16 x17 x18 ds (some e) (some (.p (.bl b))) fun d hd => h d (List.mem_cons_of_mem _ hd)
    refine ⟨y19, y20, ?_⟩
    let Γ1 := endG A d m kept sts x7 x8 x9 x10 x11 x12 x14 x16 x17 x18 (some e) (some (.p (.bl b)))
    have hc : callN [false, false] F_is_stream (conA (rd 3) (conA (rd 19) nilA)) Γ1 = .ok Γ1 (.p (.bl b)) := by
      cases e with
      | b j => exact absurd rfl (nb j)
      | o x => exact absurd rfl (no x)
      | p x => exact call_p (con_ok (rd_p rfl) (con_ok (rd_p rfl) rfl)) hs
      | s x => exact call_p (con_ok (rd_p rfl) (con_ok (rd_s rfl) rfl)) hs
    have hb : endB Γ1 = .nx Γ1 := by
      unfold endB
      have : tst (e2 neE (e1 repO (callN [false, false] F_is_stream (conA (rd 3) (conA (rd 19) nilA)))) (e1 repO (rd 20))) Γ1 = .ok Γ1 false := by
        rw [tst_ok (ne_strs (rep_p hc rfl (Nat.zero_le _) (Nat.zero_le _)) (rep_p (f := rd 20) (Γ := Γ1) (Γ1 := Γ1) (x := .bl b) (rd_p rfl) rfl (Nat.zero_le _) (Nat.zero_le _)))]
        simp
      rw [ifS_f this]; rfl
    rw [List.map_cons, forL_cons (Γ1 := Γ1) (ht _) hb]
    exact ih
/-! ### the values -/
theorem strm_tup {m : Mac} {xs : List P} (h0 : xs ≠ []) (hf : P.fines xs = true) (hd : P.dps xs ≤ 59) (bs : List Bool) (hl : xs.length ≤ 1000) (hlen : xs.length = bs.length) (hs : ∀ q ∈ xs.zip bs, IsSt m (.p q.1) q.2) : ∃ Γs, F_is_stream [.p m.p, .p (.tup xs)] = .ok Γs (.p (.bl (bs.all id))) := by
  have hv2 : e2 neE (rd 1) (tupE nilA) [some (.p m.p), some (.p (.tup xs)), none] = .ok [some (.p m.p), some (.p (.tup xs)), none] (.p (.bl true)) := by
    rw [ne_tups (f := rd 1) (g := tupE nilA) (xs := xs) (ys := []) (rd_p rfl) rfl hf hd rfl (by decide)]
    cases xs with
    | nil => exact absurd rfl h0
    | cons x xs => simp [P.pys, PyData.eqvAll]
  have hz : ((xs.zip bs).map fun q => ((E.p q.1, q.2) : E × Bool)).map (·.1) = xs.map .p := by
    rw [List.map_map]
    show (xs.zip bs).map (E.p ∘ Prod.fst) = _
    rw [← List.map_map, List.map_fst_zip (by omega)]
  have hz2 : ((xs.zip bs).map fun q => ((E.p q.1, q.2) : E × Bool)).map (·.2) = bs := by
    rw [List.map_map]
    show (xs.zip bs).map Prod.snd = _
    rw [List.map_snd_zip (by omega)]
  have := stream_ok (m := m) (v := .p (.tup xs)) (isi_tt (rd_p rfl)) hv2 (ce := .p (.tup xs)) (items := (xs.zip bs).map fun q => (E.p q.1, q.2)) (by rw [hz]; exact sqI_tup (rd_p rfl)) (by rw [List.length_map, List.length_zip]; omega) fun q hq => by
    obtain ⟨z, hz, rfl⟩ := List.mem_map.mp hq
    exact ⟨⟨fun j e => (by cases e), fun j e => (by cases e)⟩, hs z hz⟩
  rw [hz2] at this
  exact this
theorem strm_1 {m : Mac} {x : P} {b : Bool} (hf : P.fine x = true) (hd : P.dp x ≤ 50) (hs : IsSt m (.p x) b) : ∃ Γs, F_is_stream [.p m.p, .p (.tup [x])] = .ok Γs (.p (.bl b)) := by
  have := strm_tup (m := m) (xs := [x]) (by simp) (by simp [P.fines, hf]) (by show max (P.dp x) 0 ≤ 59; omega) [b] (by simp) rfl fun q hq => by
    have : q = (x, b) := by simpa using hq
    rw [this]; exact hs
  simpa using this
theorem strm_nil {m : Mac} : ∃ Γs, F_is_stream [.p m.p, .p (.tup [])] = .ok Γs (.p (.bl false)) := by
  refine ⟨[some (.p m.p), some (.p (.tup [])), none], fnE_p ?_⟩
  show b_is_stream [some (.p m.p), some (.p (.tup [])), none] = _
  unfold b_is_stream
  refine retP ?_
  have hv2 : e2 neE (rd 1) (tupE nilA) [some (.p m.p), some (.p (.tup [])), none] = .ok [some (.p m.p), some (.p (.tup [])), none] (.p (.bl false)) := by
    rw [ne_tups (f := rd 1) (g := tupE nilA) (xs := []) (ys := []) (rd_p rfl) rfl rfl (by decide) rfl (by decide)]
    rfl
  rw [andE_t (Γ1 := [some (.p m.p), some (.p (.tup [])), none]) (isi_tt (xs := []) (rd_p rfl)), andE_f hv2]
theorem strm_lst {m : Mac} {ds : List D} : ∃ Γs, F_is_stream [.p m.p, .s (.lst ds)] = .ok Γs (.p (.bl false)) := by
  refine ⟨[some (.p m.p), some (.s (.lst ds)), none], fnE_p ?_⟩
  show b_is_stream [some (.p m.p), some (.s (.lst ds)), none] = _
  unfold b_is_stream
  refine retP ?_
  have hv1 : e1 (isiO "tuple") (rd 1) [some (.p m.p), some (.s (.lst ds)), none] = .ok [some (.p m.p), some (.s (.lst ds)), none] (.p (.bl false)) := rfl
  rw [andE_f hv1]
theorem strm_in {m : Mac} {q : Nat} {vs : List Str} (hq : q < m.boxes.length) (hq2 : q < 1000) (hf : ∀ v ∈ vs, Fit v) : ∃ Γs, F_is_stream [.p m.p, .s (.tup [.tup [.p (.int (q : Int)), .lst ((txts vs).map .p)]])] = .ok Γs (.p (.bl false)) := by
  let d : D := .tup [.p (.int (q : Int)), .lst ((txts vs).map .p)]
  have hv2 : e2 neE (rd 1) (tupE nilA) [some (.p m.p), some (.s (.tup [d])), none] = .ok [some (.p m.p), some (.s (.tup [d])), none] (.p (.bl true)) := by
    unfold e2
    rw [rd_s (x := .tup [d]) rfl]
    simp only [Rs.bind_ok]
    show neE _ (.s (.tup [d])) (.p (.tup [])) = _
    unfold neE eqOf
    have e1' : pyOf [some (.p m.p), some (.s (.tup [d])), none] (.s (.tup [d])) = some (.tuple [.tuple [.int (q : Int), .list (P.pys (txts vs))]]) := by
      show D.py (.tup [d]) = _
      simp [D.py, D.pys, d, P.py, D.pys_map]
    have e2' : pyOf [some (.p m.p), some (.s (.tup [d])), none] (.p (.tup [])) = some (.tuple []) := rfl
    have hs : SeqAt.shaped (.tuple [.tuple [.int (q : Int), .list (P.pys (txts vs))]]) = true := by
      have c1 := P.fine_cans _ (txts_fine hf)
      have c2 := P.dps_eq (txts vs)
      have c3 := txts_dps vs
      unfold SeqAt.shaped
      simp only [PyData.canLay0, PyData.canLayAll0, PyData.depth, PyData.depthAll, c1, c2]
      simp
      omega
    have h0 : strs2 (.s (.tup [d])) (.p (.tup [])) = none := rfl
    simp only [h0, e1', e2']
    rw [if_pos ⟨hs, rfl⟩]
    rfl
  have := stream_ok (m := m) (v := .s (.tup [d])) rfl hv2 (ce := .s (.tup [d])) (items := [(.s d, false)]) rfl (by simp) fun q' hq' => by
    have : q' = (.s d, false) := by simpa using hq'
    rw [this]
    exact ⟨⟨fun j e => (by cases e), fun j e => (by cases e)⟩, isSt_lst hq⟩
  simpa using this
end Kv.W

set_option Elab.async false
set_option linter.all false
set_option maxRecDepth 100000
set_option maxHeartbeats 4000000
set_option autoImplicit false
/-! the plain law of k46 -/
namespace Kv.W
open PySem PySem.Spec L2 Kv M
variable [Tbl]
def WORDS : List P := [.tup [], .tup [], .tup [.str "go"], .tup [.str "go", .str "v1"]]
theorem words_in {x : P} (h : x ∈ WORDS) : ∃ ws : List Str, x = .tup (txts ws) ∧ ws.length ≤ 2 ∧ ws.Nodup ∧ In ws ∧ ("x" : Str) ∉ ws ∧ ("y" : Str) ∉ ws ∧ ("z" : Str) ∉ ws := by
  have h1 : (∀ s ∈ (["go"] : List Str), s ∈ VALS) ∧ (∀ s ∈ (["go", "v1"] : List Str), s ∈ VALS) ∧ (["go", "v1"] : List Str).Nodup ∧ ("x" : Str) ∉ (["go", "v1"] : List Str) ∧ ("y" : Str) ∉ (["go", "v1"] : List Str) ∧ ("z" : Str) ∉ (["go", "v1"] : List Str) ∧ ("x" : Str) ∉ (["go"] : List Str) ∧ ("y" : Str) ∉ (["go"] : List Str) ∧ ("z" : Str) ∉ (["go"] : List Str) := by decide +kernel
  obtain ⟨a1, a2, a3, a4, a5, a6, a7, a8, a9⟩ := h1
  simp only [WORDS, List.mem_cons, List.not_mem_nil, or_false] at h
  rcases h with rfl | rfl | rfl | rfl
  · exact ⟨[], rfl, by simp, by simp, fun v h => (nomatch h), by simp, by simp, by simp⟩
  · exact ⟨[], rfl, by simp, by simp, fun v h => (nomatch h), by simp, by simp, by simp⟩
  · exact ⟨["go"], rfl, by simp, by simp, a1, a7, a8, a9⟩
  · exact ⟨["go", "v1"], rfl, by simp, a3, a2, a4, a5, a6⟩
def FOUR : List Str := ["x", "v1", "y", "v0"]
theorem four_in : ∀ s ∈ FOUR, s ∈ VALS := by decide +kernel
theorem four_nd : FOUR.Nodup := by decide +kernel
theorem z_in : ("z" : Str) ∈ VALS := by decide +kernel
theorem x_in : ("x" : Str) ∈ VALS := by decide +kernel
noncomputable abbrev tailB : X3 := (seqS (asgS (nmT 14) (lcE (rgI1 (e1 lenE (e2 ixD (rd 3) (cE (.int 1))))) [15] (nmT 15) yesB (rd 15)))
    (seqS (asgS (nmT 16) (callN [true, false] F__law_of (conA (rd 1) (conA (rd 14) nilA))))
    (seqS (asgS (nmT 17) (tupE (conA (rd 16) (conA (e1 tupO (slE (lcE (sqI (lstE (conA (cE (.str "x")) (conA (cE (.str "v1")) (conA (cE (.str "y")) (conA (cE (.str "v0")) nilA)))))) [15] (nmT 15) (tst (e2 niE (rd 15) (rd 2))) (rd 15)) noP (soP (e2 ixD (e2 ixD (rd 3) (cE (.int 1))) (rd 16))))) nilA))))
    (seqS (ifS (notB (tst (callN [false, false] F__law_short_right (conA (rd 3) (conA (rd 17) nilA))))) (retS (cE (.bl false))) skipS)
    (seqS (asgS (nmT 18) (lstE (conA (tupE (conA (rd 5) (conA (cE (.bl true)) nilA))) (conA (tupE (conA (tupE (conA (rd 17) nilA)) (conA (cE (.bl true)) nilA))) (conA (tupE (conA (tupE nilA) (conA (cE (.bl false)) nilA))) (conA (tupE (conA (e1 lstO (rd 5)) (conA (cE (.bl false)) nilA))) (conA (tupE (conA (e2 catT (rd 5) (tupE (conA (cE .non) nilA))) (conA (cE (.bl false)) nilA))) nilA)))))))
    (seqS (asgS (nmT 18) (e2 catO (own (rd 18)) (lstE (conA (tupE (conA (tupE (conA (tupE (conA (rd 16) (conA (e2 catT (e2 ixD (rd 17) (cE (.int 1))) (tupE (conA (cE (.str "z")) nilA))) nilA))) nilA)) (conA (cE (.bl false)) nilA))) (conA (tupE (conA (tupE (conA (tupE (conA (e1 lenE (rd 14)) (conA (tupE nilA) nilA))) nilA)) (conA (cE (.bl false)) nilA))) (conA (tupE (conA (tupE (conA (tupE (conA (cE (.bl true)) (conA (tupE nilA) nilA))) nilA)) (conA (cE (.bl false)) nilA))) nilA))))))
    (seqS (dropS (e2r isL appO (rd 18) (own (tupE (conA (tupE (conA (tupE (conA (rd 16) (conA (e1 lstO (e2 ixD (rd 17) (cE (.int 1)))) nilA))) nilA)) (conA (cE (.bl false)) nilA))))))
    (seqS (ifS (tst (e2 eqE (e2 ixD (e2 ixD (rd 3) (cE (.int 1))) (rd 16)) (cE (.int 2)))) (dropS (e2r isL appO (rd 18) (own (tupE (conA (tupE (conA (tupE (conA (rd 16) (conA (tupE (conA (cE (.str "x")) (conA (cE (.str "x")) nilA))) nilA))) nilA)) (conA (cE (.bl false)) nilA)))))) skipS)
    (seqS (forS (sqI (rd 18)) (tupT 2 (conT (nmT 19) (conT (nmT 20) nilT))) endB)
    (retS (e2 eqE (e1 repO (rd 3)) (rd 4))))))))))))
theorem nil_ok {Γ : G} : nilA Γ = .ok Γ [] := rfl
theorem appD_ok {f : X1} {Γ : G} {i : Nat} {ds : List D} {e : E} {d : D} (hi : Γ[i]? = some (some (.o (.lst ds)))) (hf : own f Γ = .ok Γ e) (he : gat [e] = some [d]) (hl : ds.length < 1000000) : dropS (e2r isL appO (rd i) (own f)) Γ = .nx (Γ.set i (some (.o (.lst (ds ++ [d]))))) := by
  have h1 : isL Γ (.b i) = true := by unfold isL; rw [val_b hi]
  have h2 : appO Γ (.b i) e = .ok (Γ.set i (some (.o (.lst (ds ++ [d]))))) (.p .non) := by
    show (match Γ[i]?, gat [e] with | some (some (.o (.lst ds))), some [d] => if ds.length < 1000000 then Rs.ok (Γ.set i (some (.o (.lst (ds ++ [d]))))) (E.p .non) else .bad | _, _ => .bad) = _
    rw [hi, he]
    exact if_pos hl
  unfold dropS e2r
  rw [rd_o hi]
  simp only [Rs.bind_ok]
  rw [if_pos h1, hf]
  simp only [Rs.bind_ok, h2]
  rfl
theorem lstD_ok {g : X2} {Γ Γ1 : G} {es : List E} {ds : List D} (h : g Γ = .ok Γ1 es) (hl : es.length ≤ 1000000) (hg : gat es = some ds) : lstE g Γ = .ok Γ1 (.o (.lst ds)) := by
  unfold lstE
  rw [h]
  simp only [Rs.bind_ok]
  rw [if_pos hl, hg]
theorem catT_ok {f g : X1} {Γ Γ1 Γ2 : G} {xs ys : List P} (hf : f Γ = .ok Γ1 (.p (.tup xs))) (hg : g Γ1 = .ok Γ2 (.p (.tup ys))) (hl : xs.length + ys.length ≤ 1000000) : e2 catT f g Γ = .ok Γ2 (.p (.tup (xs ++ ys))) := by
  unfold e2; simp only [hf, hg, Rs.bind_ok]
  unfold catT
  exact if_pos hl
theorem tail_ok {A : Option E} {d : D} (hd : IsSrc d) {m : Mac} (hm : m.Ok) (hw : In m.words) (hxw : ("x" : Str) ∉ m.words) (hyw : ("y" : Str) ∉ m.words) (hzw : ("z" : Str) ∉ m.words) {sts : List (St Str)} (hs : ∀ s ∈ sts, Sok m s) (h0 : sts ≠ []) (hl : sts.length ≤ 50) (x7 x8 x9 x10 x11 x12 : Option E) :
    ∃ Γ, tailB (endG A d m (some (.p (.str m.p.py.shown))) sts x7 x8 x9 x10 x11 x12 none none none none none none) = .rt Γ (.p (.bl true)) := by
  let K : Option E := some (.p (.str m.p.py.shown))
  let n := m.boxes.length
  have hn4 : n ≤ 4 := hm.many
  have hn0 : 0 < n := by
    have := hm.l.b0
    by_cases z : 0 < m.boxes.length
    · exact z
    · rw [List.getElem?_eq_none (by omega)] at this; cases this
  let Γ0 := endG A d m K sts x7 x8 x9 x10 x11 x12 none none none none none none
  let X14 : Option E := linE (List.range n)
  let Γ1 := endG A d m K sts x7 x8 x9 x10 x11 x12 X14 none none none none none
  have h1 : lcE (rgI1 (e1 lenE (e2 ixD (rd 3) (cE (.int 1))))) [15] (nmT 15) yesB (rd 15) Γ0 = .ok Γ0 (.o (.lst ((nats (List.range n)).map .p))) := by
    have hbx : e2 ixD (rd 3) (cE (.int 1)) Γ0 = .ok Γ0 (.p (.tup (nats m.boxes))) := ix_ok (i := 1) (xs := [.tup (txts m.words), .tup (nats m.boxes), .tup (nats m.yes), .tup (m.lines.map linP)]) (rd_p rfl) rfl rfl
    have hlen : e1 lenE (e2 ixD (rd 3) (cE (.int 1))) Γ0 = .ok Γ0 (.p (.int (n : Int))) := by rw [len_tup hbx, nats_len]
    have := comp_ok (it := rgI1 (e1 lenE (e2 ixD (rd 3) (cE (.int 1))))) (ws := [15]) (t := nmT 15) (f := rd 15) (fun k : Nat => P.int (k : Int)) (List.range n) (rgN hlen (by omega)) (by rw [List.length_range]; omega) fun k _ => by
      let Γ' : G := [A, some (.o d), some (.p (.tup (txts m.words))), some (.p m.p), K, some (.p (strP sts)), lstP (sts.map stP), x7, x8, x9, x10, x11, x12, none, none, intE k, none, none, none, none, none]
      exact ⟨Γ', Γ', rfl, own_p (rd_p rfl), rfl⟩
    exact this
  obtain ⟨d1, xq, Γo, hd1, hxq, ho⟩ := of_ok (d := d) (e := .s (.lst ((nats (List.range n)).map .p))) (xs := nats (List.range n)) hd (.s _) (by intro z; have := congrArg List.length z; rw [nats_len, List.length_range] at this; simp at this; omega) (by rw [nats_len, List.length_range]; omega)
  obtain ⟨q, hq, rfl⟩ := List.mem_map.mp hxq
  have hq : q < n := List.mem_range.mp hq
  let b : Nat := m.boxes[q]
  have hb : m.boxes[q]? = some b := List.getElem?_eq_getElem hq
  have hb2 : b ≤ 2 := hm.bl _ (List.mem_of_getElem? hb)
  let Γ2 := endG A d1 m K sts x7 x8 x9 x10 x11 x12 X14 (intE q) none none none none
  have h2 : callN [true, false] F__law_of (conA (rd 1) (conA (rd 14) nilA)) Γ1 = .ok (Γ1.set 1 (some (.o d1))) (.p (.int (q : Int))) := call1b (dl := .lst ((nats (List.range n)).map .p)) rfl rfl (by decide) ho
  let vs : List Str := (FOUR.filter fun v => decide (v ∉ m.words)).take b
  have hvin : In vs := fun v h => four_in v (List.mem_filter.mp (List.mem_of_mem_take h)).1
  have hvnd : vs.Nodup := (List.take_sublist _ _).nodup (four_nd.filter _)
  have hvw : ∀ v ∈ vs, v ∉ m.words := fun v h => of_decide_eq_true (List.mem_filter.mp (List.mem_of_mem_take h)).2
  have hvl : vs.length = b := by
    show ((FOUR.filter fun v => decide (v ∉ m.words)).take b).length = b
    rw [List.length_take]
    have : 2 ≤ (FOUR.filter fun v => decide (v ∉ m.words)).length := by
      have : (["x", "y"] : List Str).length ≤ (FOUR.filter fun v => decide (v ∉ m.words)).length := sub_len (by decide +kernel) fun v hv => by
        have h4 : v ∈ FOUR := by
          have : ∀ v ∈ (["x", "y"] : List Str), v ∈ FOUR := by decide +kernel
          exact this v hv
        refine List.mem_filter.mpr ⟨h4, decide_eq_true ?_⟩
        simp only [List.mem_cons, List.not_mem_nil, or_false] at hv
        rcases hv with rfl | rfl
        · exact hxw
        · exact hyw
      exact this
    omega
  let so : St Str := (q, vs)
  have hso : Sok m so := ⟨⟨by rw [hvl]; exact hb, hvnd, hvw⟩, hvin⟩
  let X17 : Option E := some (.p (stP so))
  let Γ3 := endG A d1 m K sts x7 x8 x9 x10 x11 x12 X14 (intE q) X17 none none none
  have hbq : ∀ Γ : G, Γ[3]? = some (some (.p m.p)) → Γ[16]? = some (intE q) → e2 ixD (e2 ixD (rd 3) (cE (.int 1))) (rd 16) Γ = .ok Γ (.p (.int (b : Int))) := fun Γ g1 g2 =>
    ix_ok (i := q) (ix_ok (i := 1) (xs := [.tup (txts m.words), .tup (nats m.boxes), .tup (nats m.yes), .tup (m.lines.map linP)]) (rd_p g1) rfl rfl) (rd_p g2) (by unfold nats; rw [List.getElem?_map, hb]; rfl)
  have h3 : tupE (conA (rd 16) (conA (e1 tupO (slE (lcE (sqI (lstE (conA (cE (.str "x")) (conA (cE (.str "v1")) (conA (cE (.str "y")) (conA (cE (.str "v0")) nilA)))))) [15] (nmT 15) (tst (e2 niE (rd 15) (rd 2))) (rd 15)) noP (soP (e2 ixD (e2 ixD (rd 3) (cE (.int 1))) (rd 16))))) nilA)) Γ2 = .ok Γ2 (.p (stP so)) := by
    have hit : sqI (lstE (conA (cE (.str "x")) (conA (cE (.str "v1")) (conA (cE (.str "y")) (conA (cE (.str "v0")) nilA))))) Γ2 = .ok Γ2 (.s (.lst ((txts FOUR).map .p)), FOUR.map fun v => E.p (.str v)) := rfl
    have hc := compf_ok (it := sqI (lstE (conA (cE (.str "x")) (conA (cE (.str "v1")) (conA (cE (.str "y")) (conA (cE (.str "v0")) nilA)))))) (ws := [15]) (t := nmT 15) (c := tst (e2 niE (rd 15) (rd 2))) (f := rd 15) (fun v : Str => decide (v ∉ m.words)) P.str FOUR hit (by decide) fun v _ => by
      let Γ' : G := [A, some (.o d1), some (.p (.tup (txts m.words))), some (.p m.p), K, some (.p (strP sts)), lstP (sts.map stP), x7, x8, x9, x10, x11, x12, none, X14, some (.p (.str v)), intE q, none, none, none, none]
      exact ⟨Γ', Γ', rfl, tst_ok (ni_txts (rd_p rfl) (rd_p rfl) rfl), rfl, fun _ => ⟨Γ', own_p (rd_p rfl), rfl⟩⟩
    have hsl := slN (f := lcE (sqI (lstE (conA (cE (.str "x")) (conA (cE (.str "v1")) (conA (cE (.str "y")) (conA (cE (.str "v0")) nilA)))))) [15] (nmT 15) (tst (e2 niE (rd 15) (rd 2))) (rd 15)) hc (hbq Γ2 rfl rfl)
    have e : ((FOUR.filter fun v => decide (v ∉ m.words)).map P.str).take b = txts vs := by rw [← List.map_take]; rfl
    rw [e] at hsl
    exact tup2 (rd_p rfl) (tupO_ok hsl)
  obtain ⟨Γr, hrt⟩ := right_ok hm hso.s hso.v.fit
  have h4 : notB (tst (callN [false, false] F__law_short_right (conA (rd 3) (conA (rd 17) nilA)))) Γ3 = .ok Γ3 false := by
    rw [notB_ok (tst_ok (call_p (con_ok (rd_p rfl) (con_ok (rd_p rfl) rfl)) hrt))]; rfl
  let v1 : List D := [.p (.tup [strP sts, .bl true]), .p (.tup [.tup [stP so], .bl true]), .p (.tup [.tup [], .bl false]), .tup [.lst ((sts.map stP).map .p), .p (.bl false)], .p (.tup [.tup (sts.map stP ++ [.non]), .bl false])]
  let v2 : List D := [.p (.tup [.tup [.tup [.int (q : Int), .tup (txts (vs ++ [("z" : Str)]))]], .bl false]), .p (.tup [.tup [.tup [.int (n : Int), .tup (txts [])]], .bl false]), .p (.tup [.tup [.tup [.bl true, .tup (txts [])]], .bl false])]
  let v3 : D := .tup [.tup [.tup [.p (.int (q : Int)), .lst ((txts vs).map .p)]], .p (.bl false)]
  let v4 : D := .p (.tup [.tup [.tup [.int (q : Int), .tup (txts ["x", "x"])]], .bl false])
  let Γ4 := endG A d1 m K sts x7 x8 x9 x10 x11 x12 X14 (intE q) X17 (some (.o (.lst v1))) none none
  let Γ4' := endG A d1 m K sts x7 x8 x9 x10 x11 x12 X14 (intE q) X17 none none none
  let Γ5 := endG A d1 m K sts x7 x8 x9 x10 x11 x12 X14 (intE q) X17 (some (.o (.lst (v1 ++ v2)))) none none
  let Γ6 := endG A d1 m K sts x7 x8 x9 x10 x11 x12 X14 (intE q) X17 (some (.o (.lst (v1 ++ v2 ++ [v3])))) none none
  have h5 : lstE (conA (tupE (conA (rd 5) (conA (cE (.bl true)) nilA))) (conA (tupE (conA (tupE (conA (rd 17) nilA)) (conA (cE (.bl true)) nilA))) (conA (tupE (conA (tupE nilA) (conA (cE (.bl false)) nilA))) (conA (tupE (conA (e1 lstO (rd 5)) (conA (cE (.bl false)) nilA))) (conA (tupE (conA (e2 catT (rd 5) (tupE (conA (cE .non) nilA))) (conA (cE (.bl false)) nilA))) nilA))))) Γ3 = .ok Γ3 (.o (.lst v1)) := by
    have a1 : tupE (conA (rd 5) (conA (cE (.bl true)) nilA)) Γ3 = .ok Γ3 (.p (.tup [strP sts, .bl true])) := tup2 (rd_p rfl) rfl
    have a2 : tupE (conA (tupE (conA (rd 17) nilA)) (conA (cE (.bl true)) nilA)) Γ3 = .ok Γ3 (.p (.tup [.tup [stP so], .bl true])) := tup2 (tup_p (ps := [stP so]) (con_ok (rd_p rfl) rfl) (by simp)) rfl
    have a3 : tupE (conA (tupE nilA) (conA (cE (.bl false)) nilA)) Γ3 = .ok Γ3 (.p (.tup [.tup [], .bl false])) := rfl
    have a4 : tupE (conA (e1 lstO (rd 5)) (conA (cE (.bl false)) nilA)) Γ3 = .ok Γ3 (.o (.tup [.lst ((sts.map stP).map .p), .p (.bl false)])) := tupE_o (con_ok (lst_ok (xs := sts.map stP) (rd_p rfl)) (con_ok (e := .p (.bl false)) (es := []) rfl rfl)) (by simp) rfl rfl
    have a5 : tupE (conA (e2 catT (rd 5) (tupE (conA (cE .non) nilA))) (conA (cE (.bl false)) nilA)) Γ3 = .ok Γ3 (.p (.tup [.tup (sts.map stP ++ [.non]), .bl false])) := tup2 (catT_ok (xs := sts.map stP) (ys := [.non]) (rd_p rfl) rfl (by simp; omega)) rfl
    exact lstD_ok (con_ok a1 (con_ok a2 (con_ok a3 (con_ok a4 (con_ok a5 (es := []) rfl))))) (by simp) rfl
  have hv17 : ∀ Γ : G, Γ[17]? = some X17 → e2 ixD (rd 17) (cE (.int 1)) Γ = .ok Γ (.p (.tup (txts vs))) := fun Γ g => ix_ok (i := 1) (xs := [nat' q, .tup (txts vs)]) (rd_p g) rfl rfl
  have h6 : e2 catO (own (rd 18)) (lstE (conA (tupE (conA (tupE (conA (tupE (conA (rd 16) (conA (e2 catT (e2 ixD (rd 17) (cE (.int 1))) (tupE (conA (cE (.str "z")) nilA))) nilA))) nilA)) (conA (cE (.bl false)) nilA))) (conA (tupE (conA (tupE (conA (tupE (conA (e1 lenE (rd 14)) (conA (tupE nilA) nilA))) nilA)) (conA (cE (.bl false)) nilA))) (conA (tupE (conA (tupE (conA (tupE (conA (cE (.bl true)) (conA (tupE nilA) nilA))) nilA)) (conA (cE (.bl false)) nilA))) nilA)))) Γ4 = .ok Γ4' (.o (.lst (v1 ++ v2))) := by
    have o1 : own (rd 18) Γ4 = .ok Γ4' (.o (.lst v1)) := rfl
    have c1 := catT_ok (f := e2 ixD (rd 17) (cE (.int 1))) (g := tupE (conA (cE (.str "z")) nilA)) (xs := txts vs) (ys := [.str "z"]) (hv17 Γ4' rfl) rfl (by rw [txts_len]; simp; omega)
    have ez : txts vs ++ [.str "z"] = txts (vs ++ [("z" : Str)]) := by simp [txts]
    rw [ez] at c1
    have a1 : tupE (conA (tupE (conA (tupE (conA (rd 16) (conA (e2 catT (e2 ixD (rd 17) (cE (.int 1))) (tupE (conA (cE (.str "z")) nilA))) nilA))) nilA)) (conA (cE (.bl false)) nilA)) Γ4' = .ok Γ4' (.p (.tup [.tup [.tup [.int (q : Int), .tup (txts (vs ++ [("z" : Str)]))]], .bl false])) :=
      tup2 (tup_p (ps := [.tup [.int (q : Int), .tup (txts (vs ++ [("z" : Str)]))]]) (con_ok (tup2 (rd_p rfl) c1) rfl) (by simp)) rfl
    have l14 : e1 lenE (rd 14) Γ4' = .ok Γ4' (.p (.int (n : Int))) := by rw [lenL_b (xs := nats (List.range n)) rfl, nats_len, List.length_range]
    have a2 : tupE (conA (tupE (conA (tupE (conA (e1 lenE (rd 14)) (conA (tupE nilA) nilA))) nilA)) (conA (cE (.bl false)) nilA)) Γ4' = .ok Γ4' (.p (.tup [.tup [.tup [.int (n : Int), .tup (txts [])]], .bl false])) :=
      tup2 (tup_p (ps := [.tup [.int (n : Int), .tup (txts [])]]) (con_ok (tup2 l14 rfl) rfl) (by simp)) rfl
    have a3 : tupE (conA (tupE (conA (tupE (conA (cE (.bl true)) (conA (tupE nilA) nilA))) nilA)) (conA (cE (.bl false)) nilA)) Γ4' = .ok Γ4' (.p (.tup [.tup [.tup [.bl true, .tup (txts [])]], .bl false])) := rfl
    have l1 := lstD_ok (ds := v2) (con_ok a1 (con_ok a2 (con_ok a3 nil_ok))) (by simp) rfl
    unfold e2 at l1 ⊢
    rw [o1]
    simp only [Rs.bind_ok]
    rw [l1]
    simp only [Rs.bind_ok]
    rfl
  have h7 : own (tupE (conA (tupE (conA (tupE (conA (rd 16) (conA (e1 lstO (e2 ixD (rd 17) (cE (.int 1)))) nilA))) nilA)) (conA (cE (.bl false)) nilA))) Γ5 = .ok Γ5 (.o v3) := by
    refine own_o ?_
    have a1 : tupE (conA (rd 16) (conA (e1 lstO (e2 ixD (rd 17) (cE (.int 1)))) nilA)) Γ5 = .ok Γ5 (.o (.tup [.p (.int (q : Int)), .lst ((txts vs).map .p)])) := tupE_o (con_ok (rd_p rfl) (con_ok (lst_ok (hv17 Γ5 rfl)) (es := []) rfl)) (by simp) rfl rfl
    have a2 : tupE (conA (tupE (conA (rd 16) (conA (e1 lstO (e2 ixD (rd 17) (cE (.int 1)))) nilA))) nilA) Γ5 = .ok Γ5 (.o (.tup [.tup [.p (.int (q : Int)), .lst ((txts vs).map .p)]])) := tupE_o (con_ok a1 (es := []) rfl) (by simp) rfl rfl
    exact tupE_o (con_ok a2 (con_ok (e := .p (.bl false)) (es := []) rfl rfl)) (by simp) rfl rfl
  -- what is a stream
  have hz := str_size hm hs (by omega)
  have hzo := st_size hm hso
  have hq1000 : q < 1000 := by omega
  have ok_st : ∀ s, Sok m s → IsSt m (.p (stP s)) true := fun s h => isSt_ok h.s h.v.isv (by have := h.l hm; omega)
  have g1 : ∀ d ∈ v1, Good m d := by
    intro d hd
    simp only [v1, List.mem_cons, List.not_mem_nil, or_false] at hd
    rcases hd with rfl | rfl | rfl | rfl | rfl
    · refine good_p ?_
      have := strm_tup (m := m) (xs := sts.map stP) (by simpa using h0) hz.1 (by have h2 := hz.2.1; have : P.dp (strP sts) = P.dps (sts.map stP) + 1 := rfl; omega) (sts.map fun _ => true) (by simp; omega) (by simp) fun q hq => by
        rw [List.zip_map'] at hq
        obtain ⟨s, hs', rfl⟩ := List.mem_map.mp hq
        exact ok_st s (hs s hs')
      have e : (sts.map fun _ => true).all id = true := by simp
      rw [e] at this
      exact this
    · exact good_p (strm_1 hzo.1 (by omega) (ok_st so hso))
    · exact good_p strm_nil
    · exact good_s (fun y z => by cases z) strm_lst
    · refine good_p ?_
      have hfs : P.fines (sts.map stP ++ [.non]) = true := by
        rw [fines_iff]
        intro x hx
        rcases List.mem_append.mp hx with h | h
        · exact fines_iff.mp hz.1 x h
        · have : x = .non := by simpa using h
          rw [this]; rfl
      have hds : P.dps (sts.map stP ++ [.non]) ≤ 59 := dps_le fun x hx => by
        rcases List.mem_append.mp hx with h | h
        · obtain ⟨s, hs', rfl⟩ := List.mem_map.mp h
          have := (st_size hm (hs s hs')).2.1
          omega
        · have : x = .non := by simpa using h
          rw [this]; exact Nat.zero_le _
      have := strm_tup (m := m) (xs := sts.map stP ++ [.non]) (by simp) hfs hds ((sts.map fun _ => true) ++ [false]) (by simp; omega) (by simp) fun q hq => by
        rw [List.zip_append (by simp)] at hq
        rcases List.mem_append.mp hq with h | h
        · rw [List.zip_map'] at h
          obtain ⟨s, hs', rfl⟩ := List.mem_map.mp h
          exact ok_st s (hs s hs')
        · have : q = (.non, false) := by simpa using h
          rw [this]; exact isSt_non
      have e : ((sts.map fun _ => true) ++ [false]).all id = false := by simp
      rw [e] at this
      exact this
  have fine_q : ∀ {us : List Str}, In us → P.fine (.tup [.int (q : Int), .tup (txts us)]) = true ∧ P.dp (.tup [.int (q : Int), .tup (txts us)]) ≤ 50 := fun {us} h => by
    have := st_size (m := m) hm hso
    refine ⟨?_, ?_⟩
    · show P.fines [.int (q : Int), .tup (txts us)] = true
      simp only [P.fines, Bool.and_eq_true]
      exact ⟨decide_eq_true (by omega), txts_fine h.fit, trivial⟩
    · have := txts_dps us
      show max 0 (max (P.dps (txts us) + 1) 0) + 1 ≤ 50
      omega
  have g2 : ∀ d ∈ v2, Good m d := by
    intro d hd
    simp only [v2, List.mem_cons, List.not_mem_nil, or_false] at hd
    rcases hd with rfl | rfl | rfl
    · have hz' : In (vs ++ [("z" : Str)]) := fun v h => by
        rcases List.mem_append.mp h with h | h
        · exact hvin v h
        · have : v = "z" := by simpa using h
          rw [this]; exact z_in
      have := fine_q hz'
      exact good_p (strm_1 this.1 this.2 (isSt_len hz'.isv (by simp [hvl]; omega) hb (by simp [hvl])))
    · have hnum := num_ok n m.boxes.length
      rw [decide_eq_false (Nat.lt_irrefl _)] at hnum
      refine good_p (strm_1 ?_ ?_ (isSt_num hnum))
      · show P.fines [.int (n : Int), .tup []] = true
        simp only [P.fines, P.fine, Bool.and_eq_true]
        exact ⟨decide_eq_true (by omega), trivial, trivial⟩
      · show max 0 (max (0 + 1) 0) + 1 ≤ 50
        omega
    · exact good_p (strm_1 rfl (by decide) (isSt_num (num_bl true _)))
  have g3 : Good m v3 := good_s (fun y z => by cases z) (strm_in hq hq1000 hvin.fit)
  have g4 : b = 2 → Good m v4 := fun hb' => by
    have hxx : In ["x", "x"] := fun v h => by
      simp only [List.mem_cons, List.not_mem_nil, or_false, or_self] at h
      rw [h]; exact x_in
    have := fine_q hxx
    have h := isSt_last (m := m) (q := q) (vs := ["x", "x"]) (us := ["x"]) hxx.isv (by simp) (by rw [hb, hb']; rfl) (fun v h => by
      simp only [List.mem_cons, List.not_mem_nil, or_false, or_self] at h
      rw [h]; exact hxw) like_xx
    have e : decide ((["x"] : List Str).length = (["x", "x"] : List Str).length) = false := by simp
    rw [e] at h
    exact good_p (strm_1 this.1 this.2 h)
  -- the last values
  have h8 : ∃ ds, (∀ d ∈ ds, Good m d) ∧ ifS (tst (e2 eqE (e2 ixD (e2 ixD (rd 3) (cE (.int 1))) (rd 16)) (cE (.int 2)))) (dropS (e2r isL appO (rd 18) (own (tupE (conA (tupE (conA (tupE (conA (rd 16) (conA (tupE (conA (cE (.str "x")) (conA (cE (.str "x")) nilA))) nilA))) nilA)) (conA (cE (.bl false)) nilA)))))) skipS Γ6 = .nx (endG A d1 m K sts x7 x8 x9 x10 x11 x12 X14 (intE q) X17 (some (.o (.lst ds))) none none) := by
    have gg : ∀ d ∈ v1 ++ v2 ++ [v3], Good m d := fun d hd => by
      rcases List.mem_append.mp hd with h | h
      · rcases List.mem_append.mp h with h | h
        · exact g1 d h
        · exact g2 d h
      · have : d = v3 := by simpa using h
        rw [this]; exact g3
    have hc : tst (e2 eqE (e2 ixD (e2 ixD (rd 3) (cE (.int 1))) (rd 16)) (cE (.int 2))) Γ6 = .ok Γ6 (decide ((b : Int) = 2)) := tst_ok (eqI_ok (b := 2) (hbq Γ6 rfl rfl) rfl)
    by_cases hb' : (b : Int) = 2
    · rw [decide_eq_true hb'] at hc
      refine ⟨v1 ++ v2 ++ [v3] ++ [v4], fun d hd => ?_, ?_⟩
      · rcases List.mem_append.mp hd with h | h
        · exact gg d h
        · have : d = v4 := by simpa using h
          rw [this]; exact g4 (by omega)
      · rw [ifS_t hc]
        have a1 : tupE (conA (tupE (conA (tupE (conA (rd 16) (conA (tupE (conA (cE (.str "x")) (conA (cE (.str "x")) nilA))) nilA))) nilA)) (conA (cE (.bl false)) nilA)) Γ6 = .ok Γ6 (.p (.tup [.tup [.tup [.int (q : Int), .tup (txts ["x", "x"])]], .bl false])) :=
          tup2 (tup_p (ps := [.tup [.int (q : Int), .tup (txts ["x", "x"])]]) (con_ok (tup2 (rd_p rfl) (tup2 rfl rfl)) rfl) (by simp)) rfl
        rw [appD_ok (Γ := Γ6) (i := 18) (ds := v1 ++ v2 ++ [v3]) (d := v4) rfl (own_p a1) rfl (by simp [v1, v2])]
        rfl
    · rw [decide_eq_false hb'] at hc
      exact ⟨v1 ++ v2 ++ [v3], gg, by rw [ifS_f hc]; rfl⟩
  obtain ⟨ds, hds, h8⟩ := h8
  let Γ7 := endG A d1 m K sts x7 x8 x9 x10 x11 x12 X14 (intE q) X17 (some (.o (.lst ds))) none none
  let Γ8 := endG A d1 m K sts x7 x8 x9 x10 x11 x12 X14 (intE q) X17 (some (.s (.lst ds))) none none
  obtain ⟨y19, y20, h9⟩ := end_loop (A := A) (d := d1) (m := m) (kept := K) (sts := sts) x7 x8 x9 x10 x11 x12 X14 (intE q) X17 (some (.s (.lst ds))) ds none none hds
  let Γ9 := endG A d1 m K sts x7 x8 x9 x10 x11 x12 X14 (intE q) X17 (some (.s (.lst ds))) y19 y20
  refine ⟨Γ9, ?_⟩
  show tailB Γ0 = _
  unfold tailB
  rw [seqS_nx (Γ1 := Γ1) (asgO h1 rfl)]
  rw [seqS_nx (Γ1 := Γ2) (asgP h2 rfl)]
  rw [seqS_nx (Γ1 := Γ3) (asgP h3 rfl)]
  rw [seqS_nx (Γ1 := Γ3) (by rw [ifS_f h4]; rfl)]
  rw [seqS_nx (Γ1 := Γ4) (asgO h5 rfl)]
  rw [seqS_nx (Γ1 := Γ5) (asgO h6 rfl)]
  rw [seqS_nx (Γ1 := Γ6) (by rw [appD_ok (Γ := Γ5) (i := 18) (ds := v1 ++ v2) (d := v3) rfl h7 rfl (by simp [v1, v2])]; rfl)]
  rw [seqS_nx (Γ1 := Γ7) h8]
  have hit : sqI (rd 18) Γ7 = .ok Γ8 (.s (.lst ds), ds.map ofS) := rfl
  rw [seqS_nx (by rw [forS_eq hit]; exact h9)]
  have hmz := mac_size hm hw
  refine retP ?_
  rw [eq_strs (rep_p (f := rd 3) (Γ := Γ9) (Γ1 := Γ9) (x := m.p) (rd_p rfl) hmz.1 hmz.2.1 hmz.2.2) (rd_p (i := 4) rfl), decide_eq_true rfl]
/-- THE PLAIN LAW -/
theorem plain_law (ns : List Int) (hl : ns.length ≤ 63) : ∃ Γ, F_law [.s (.fz (ns.map .int))] = .ok Γ (.p (.bl true)) := by
  let A : Option E := some (.s (.fz (ns.map .int)))
  obtain ⟨d1, Γs, hd1, hs1⟩ := source_ok ns hl
  let Γ0 : G := [A, none, none, none, none, none, none, none, none, none, none, none, none, none, none, none, none, none, none, none, none]
  let Γ1 : G := [A, some (.o d1), none, none, none, none, none, none, none, none, none, none, none, none, none, none, none, none, none, none, none]
  have h1 : callN [false] F__law_source (conA (rd 0) nilA) Γ0 = .ok Γ0 (.o d1) := call_o (con_ok (rd_s rfl) rfl) hs1
  obtain ⟨d2, xw, hd2, hxw, h2⟩ := ofN1 (Γ := Γ1) (xs := WORDS) (f := lstE (conA (tupE nilA) (conA (tupE nilA) (conA (tupE (conA (cE (.str "go")) nilA)) (conA (tupE (conA (cE (.str "go")) (conA (cE (.str "v1")) nilA))) nilA))))) hd1 rfl rfl (by simp [WORDS]) (by decide)
  obtain ⟨ws, rfl, w1, w2, w3, w4, w5, w6⟩ := words_in hxw
  let W : Option E := some (.p (.tup (txts ws)))
  let Γ2 : G := [A, some (.o d2), W, none, none, none, none, none, none, none, none, none, none, none, none, none, none, none, none, none, none]
  obtain ⟨d3, m, Γm, hd3, hm, hmw, h3⟩ := machine_ok hd2 w1 w2
  subst hmw
  have h3' : callN [true, false] F__law_machine (conA (rd 1) (conA (rd 2) nilA)) Γ2 = .ok (Γ2.set 1 (some (.o d3))) (.p m.p) := call1 rfl rfl (rd_p rfl) (fun j z => by cases z) h3
  let Γ3 : G := [A, some (.o d3), W, some (.p m.p), none, none, none, none, none, none, none, none, none, none, none, none, none, none, none, none, none]
  have hmz := mac_size hm w3
  let K : Option E := some (.p (.str m.p.py.shown))
  let Γ4 := lapG A d3 m K [(0, [])] none none none none none none
  have h4 : tupE (conA (e1 repO (rd 3)) (conA (callN [] F_first_stream nilA) (conA (lstE (conA (tupE (conA (cE (.int 0)) (conA (tupE nilA) nilA))) nilA)) nilA))) Γ3 = .ok Γ3 (.o (.tup [.p (.str m.p.py.shown), .p (strP [(0, [])]), .lst ([stP (0, [])].map .p)])) := by
    refine tupE_o (con_ok (rep_p (rd_p rfl) hmz.1 hmz.2.1 hmz.2.2) (con_ok (call_p (es := []) (es' := []) rfl first_ok) (con_ok (e := .o (.lst ([stP (0, [])].map .p))) (es := []) rfl rfl))) (by simp) rfl rfl
  have hst0 : ∀ s ∈ ([(0, [])] : List (St Str)), Sok m s := fun s h => by
    have : s = (0, []) := by simpa using h
    rw [this]
    exact ⟨st0_ok hm.l.b0, fun v h => by cases h⟩
  obtain ⟨d4, sts, y7, y8, y9, y10, y11, y12, hd4, l1, l2, l3, h6⟩ := laps_ok (A := A) hm w3 (kept := K) ((List.range 6).map fun k : Nat => E.p (.int (k : Int))) d3 [(0, [])] none none none none none none hd3 hst0 (by simp) (by simp)
  obtain ⟨Γe, h7⟩ := tail_ok (A := A) hd4 hm w3 w4 w5 w6 l1 l2 l3 y7 y8 y9 y10 y11 y12
  refine ⟨Γe, fnE_p ?_⟩
  show b_law Γ0 = _
  unfold b_law
  rw [seqS_nx (Γ1 := Γ1) (asgO h1 rfl)]
  rw [seqS_nx (Γ1 := Γ2) (asgP h2 rfl)]
  rw [seqS_nx (Γ1 := Γ3) (asgP h3' rfl)]
  rw [seqS_nx (Γ1 := Γ4) (asgO h4 rfl)]
  have h5 : tst (e2 neE (e1 repO (rd 5)) (e1 repO (tupE (conA (tupE (conA (cE (.int 0)) (conA (tupE nilA) nilA))) nilA)))) Γ4 = .ok Γ4 false := by
    have a1 := rep_p (f := rd 5) (Γ := Γ4) (Γ1 := Γ4) (x := strP [(0, [])]) (rd_p rfl) rfl (by decide) (by decide)
    have a2 := rep_p (f := tupE (conA (tupE (conA (cE (.int 0)) (conA (tupE nilA) nilA))) nilA)) (Γ := Γ4) (Γ1 := Γ4) (x := strP [(0, [])]) rfl rfl (by decide) (by decide)
    rw [tst_ok (ne_strs a1 a2)]; simp
  rw [seqS_nx (Γ1 := Γ4) (by rw [ifS_f h5]; rfl)]
  have hit : rgI1 (cE (.int 6)) Γ4 = .ok Γ4 (.p .non, (List.range 6).map fun k : Nat => E.p (.int (k : Int))) := rgN (n := 6) rfl (by decide)
  rw [seqS_nx (by rw [forS_eq hit]; exact h6)]
  exact h7
end Kv.W

set_option Elab.async false
set_option linter.all false
set_option maxRecDepth 100000
set_option maxHeartbeats 4000000
set_option autoImplicit false
/-! Kv, the end: a law's call from a state in which nothing is shown; facts of the top by names. -/
namespace Kv
open PySem PySem.Spec PyProof.Rows L2
/-- the first abstract heap: the tables, and the script where K has it not -/
structure Seed (P : Program) (w : World) (K : PySem.W.Frag) (a : Addr) (ns : List Int) (tabs : List Addr) (h : Heap) (H : Hp) : Prop where
  tb : ∀ t ∈ tabs, H t = some (.tbl #[])
  only : ∀ b u, H b = some u → (b ∈ tabs ∧ u = .tbl #[]) ∨ (b = a ∧ K.lookup a = none ∧ ∃ o, u = .frz o (.lst (ns.map V.int)))
  sq : SqL K H a (ns.map V.int)
  ok : HOk P w H h
abbrev EmptyT (h : Heap) (t : Addr) : Prop := h.get? t = some { cls := .none, data := .fields #[] }
abbrev ListAt (h : Heap) (a : Addr) (vs : List Value) : Prop := h.get? a = some { cls := .type "list", data := .seq vs.toArray }
section
variable {P : Program} {w : World} {K : PySem.W.Frag} {a : Addr} {ns : List Int} {vs : List Value} {tabs : List Addr} {h : Heap}
theorem not_tab (ha : ListAt h a vs) (ht : ∀ t ∈ tabs, EmptyT h t) : a ∉ tabs := fun z => by
  have e := (ht a z).symm.trans ha
  cases e
theorem seed_ex (KX : K.In h) (ha : ListAt h a vs) (hi : IntsAre vs ns) (hl : ns.length ≤ sizeLine) (ht : ∀ t ∈ tabs, EmptyT h t) : ∃ H : Hp, Seed P w K a ns tabs h H := by
  have aT := not_tab ha ht
  have rv := vals_ints hi
  have lenV := hi.length
  cases hk : K.lookup a with
  | some o =>
    have eo : o = { cls := .type "list", data := .seq vs.toArray } := Option.some.inj ((KX a o hk).symm.trans ha)
    subst eo
    refine ⟨fun b => if b ∈ tabs then some (.tbl #[]) else none, fun t m => if_pos m, fun b u e => ?_, ?_, fun b u e => ?_⟩
    · by_cases m : b ∈ tabs
      · exact .inl ⟨m, (Option.some.inj ((if_pos m).symm.trans e)).symm⟩
      · cases (if_neg m).symm.trans e
    · exact .inr ⟨_, vs.toArray, _, hk, rfl, rfl, rfl, by rw [List.size_toArray, lenV]; exact hl, by simpa using rv⟩
    · by_cases m : b ∈ tabs
      · cases (if_pos m).symm.trans e
        exact ht b m
      · cases (if_neg m).symm.trans e
  | none =>
    refine ⟨fun b => if b = a then some (.frz { cls := .type "list", data := .seq vs.toArray } (.lst (ns.map V.int))) else if b ∈ tabs then some (.tbl #[]) else none, fun t m => ?_, fun b u e => ?_, .inl (.inr ⟨_, if_pos rfl⟩), fun b u e => ?_⟩
    · have hne : ¬ t = a := fun z => aT (z ▸ m)
      exact (if_neg hne).trans (if_pos m)
    · by_cases q : b = a
      · exact .inr ⟨q, hk, _, (Option.some.inj ((if_pos q).symm.trans e)).symm⟩
      · have e := (if_neg q).symm.trans e
        by_cases m : b ∈ tabs
        · exact .inl ⟨m, (Option.some.inj ((if_pos m).symm.trans e)).symm⟩
        · cases (if_neg m).symm.trans e
    · by_cases q : b = a
      · subst q
        cases (if_pos rfl).symm.trans e
        exact ⟨ha, by rw [List.length_map]; exact hl, vs, _, rv, ha⟩
      · have e := (if_neg q).symm.trans e
        by_cases m : b ∈ tabs
        · cases (if_pos m).symm.trans e
          exact ht b m
        · cases (if_neg m).symm.trans e
variable {H : Hp}
/-- what is neither a list nor an empty table is not tracked -/
theorem Seed.free (S : Seed P w K a ns tabs h H) (ha : ListAt h a vs) (ht : ∀ t ∈ tabs, EmptyT h t) {b : Addr} {o : Obj} (e : h.get? b = some o) (n1 : ∀ xs n, o.data ≠ .seq xs n) (n2 : o.data ≠ .fields #[]) : H b = none := by
  cases q : H b with
  | none => rfl
  | some u =>
    rcases S.only b u q with ⟨m, _⟩ | ⟨z, _⟩
    · have e2 := Option.some.inj (e.symm.trans (ht b m))
      exact absurd (by rw [e2]) n2
    · subst z
      have e2 := Option.some.inj (e.symm.trans ha)
      exact absurd (by rw [e2]) (n1 _ _)
/-- a law's call; cs: its code objects and their tables -/
theorem callG {mg mb : Str → Option Value} {CX : CXT} {k : Nat} {fa : Addr} {cs : List (Addr × Addr)} {fd : FuncData} {x : Str} {sp : Sp} {z : Shared}
    (KX : K.In z.heap) (gm : z.heap.Ns mainGlobals mg) (gb : z.heap.Ns builtinsNs mb) (gbb : ∀ y : Str, y ≠ "__name__" → mb y = bootBuiltins y) (lim : z.heap.NoLimit) (gens : z.gens = #[])
    (et : ∀ p ∈ cs, EmptyT z.heap p.2) (kt : ∀ p ∈ cs, K.lookup p.2 = none) (ch : ∀ p ∈ cs, PySem.W.CodeHd z.heap p.1 p.2)
    (bmod : ∃ (bm : Addr) (ob : Obj), mg "__builtins__" = some (.ref bm) ∧ bm ≠ builtinsNs ∧ z.heap.get? bm = some ob ∧ ob.cls = .type "module" ∧ ob.dict = some builtinsNs ∧ ob.data = .plain)
    (ha : ListAt z.heap a vs) (hi : IntsAre vs ns) (hl : ns.length ≤ sizeLine) (room : Room k callerA)
    (F : ∀ base : Heap, K.In base → base.Ns mainGlobals mg → (∀ p ∈ cs, LamX.TabB base mg p.1 p.2) → FnG P w K mg base CX k fa fd [x] sp) (bind : ∀ (s : Shared) (u : Value), BindsTo s fd ⟨[u], []⟩ [(x, u)])
    (hsp : ∀ H : Hp, (∀ p ∈ cs, H p.2 = some (.tbl #[])) → SqL K H a (ns.map V.int) → sp [.ref a] H (fun v _ => v = .bl true) fun _ _ _ => False)
    (cx : ∀ H e s', CX [] H z (fun _ _ _ => False) e s' → False) :
    codeAny (model P w) callerA (.call (.ref fa) ⟨[.ref a], []⟩) (fun r s' => r = .ok (.ret (.bool true)) ∧ OldK z.heap s'.heap ∧ s'.os = z.os ∧ AllBare s'.gens) z := by
  have ht : ∀ t ∈ cs.map (·.2), EmptyT z.heap t := fun t m => by
    obtain ⟨p, hp, e⟩ := List.mem_map.mp m
    exact e ▸ et p hp
  obtain ⟨H, S⟩ := seed_ex (P := P) (w := w) KX ha hi hl ht
  have isIn : ∀ p ∈ cs, p.2 ∈ cs.map (·.2) := fun p hp => List.mem_map.mpr ⟨p, hp, rfl⟩
  have hb : ∀ {b : Addr} {o : Obj}, z.heap.get? b = some o → H b = none → (hidT z.heap H).get? b = some o := fun e n => hidT_get e n
  have nsB : ∀ {b : Addr} {m : Str → Option Value}, z.heap.Ns b m → (hidT z.heap H).Ns b m := fun {b m} q => by
    obtain ⟨o, es, ep, e, d, r⟩ := q
    exact ⟨o, es, ep, hb e (S.free ha ht e (fun xs n y => by rw [d] at y; cases y) fun y => by rw [d] at y; cases y), d, r⟩
  have kb : K.In (hidT z.heap H) := fun b o e => hb (KX b o e) (by
    cases q : H b with
    | none => rfl
    | some u =>
      rcases S.only b u q with ⟨m, _⟩ | ⟨y, n, _⟩
      · obtain ⟨p, hp, ep⟩ := List.mem_map.mp m
        have := kt p hp
        rw [ep] at this
        rw [this] at e
        cases e
      · subst y
        rw [n] at e
        cases e)
  have md : L2.Mod K mg (hidT z.heap H) := by
    obtain ⟨mc, l1, l2⟩ := lim
    exact ⟨kb, nsB gm, ⟨mb, nsB gb, gbb⟩, mc, nsB l1, l2⟩
  have tbs : ∀ p ∈ cs, LamX.TabB (hidT z.heap H) mg p.1 p.2 := fun p hp => by
    refine ⟨?_, ?_, fun y => ?_⟩
    · obtain ⟨o, us, file, tf, flags, tg, inF, text, tt, e1, r1, r2, r⟩ := ch p hp
      refine ⟨o, us, file, tf, flags, tg, inF, text, tt, hb e1 (S.free ha ht e1 (fun xs n y => by rw [r2] at y; cases y) fun y => ?_), r1, r2, r⟩
      rw [r2] at y
      cases y
      have r3 := r.1
      simp at r3
    · obtain ⟨bm, ob, b1, b2, b3, b4, b5, b6⟩ := bmod
      have g1 : bm ≠ mainGlobals := fun q => by
        obtain ⟨o, es, ep, e, d, _⟩ := gm
        rw [q, e] at b3
        cases b3
        rw [d] at b6
        cases b6
      have g2 : bm ≠ p.2 := fun q => by
        have e0 : z.heap.get? p.2 = some { cls := .none, data := .fields #[] } := et p hp
        rw [← q, b3] at e0
        cases e0
        cases b6
      exact ⟨bm, ob, b1, b2, g1, g2, hb b3 (S.free ha ht b3 (fun xs n y => by rw [b6] at y; cases y) fun y => by rw [b6] at y; cases y), b4, b5, b6⟩
    · obtain ⟨o, es, ep, e, d, _⟩ := gm
      have e0 : z.heap.get? p.2 = some { cls := .none, data := .fields #[] } := et p hp
      rw [← y, e] at e0
      cases e0
      cases d
  have env : Env0 P w K mg (hidT z.heap H) callerA [] z H :=
    ⟨rfl, md, fun b o e => of_hidT e, Nat.le_of_eq (hidT_size _ _), trivial, fun b m => absurd (show b ∈ ([] : List Addr) from m) (by simp), S.ok, .of_eq gens⟩
  have run := (F _ kb (nsB gm) tbs).run callerA [] z H ⟨[.ref a], []⟩ [.ref a] [.ref a] _ _ room rfl env (bind z (.ref a)) (.cons rfl .nil) (hsp H (fun p hp => S.tb _ (isIn p hp)) S.sq)
  refine codeAny_mono run fun r s' q => ?_
  cases r with
  | error e => exact (cx H e s' q).elim
  | ok fl =>
    cases fl with
    | next => exact False.elim q
    | brk => exact False.elim q
    | cont => exact False.elim q
    | ret u =>
      obtain ⟨v, H', os, bare, un, ok', rel, qv⟩ := q
      have qv' : v = .bl true := qv
      subst qv'
      have ru : u = Value.bool true := rel
      subst ru
      have stay : ∀ b o, b ∉ cs.map (·.2) → z.heap.get? b = some o → s'.heap.get? b = some o := fun b o nb e => by
        cases y : H b with
        | none => exact un.keep b o e y (fun m => absurd (show b ∈ ([] : List Addr) from m) (by simp)) (by simp)
        | some u =>
          rcases S.only b u y with ⟨m, _⟩ | ⟨_, _, ob, eu⟩
          · exact absurd m nb
          · subst eu
            have y2 := un.frzs b ob _ y
            have c1 := (S.ok b _ y).1
            have c2 := (ok' b _ y2).1
            rw [e] at c1
            cases c1
            exact c2
      have more : ∀ p ∈ cs, ∃ m : Array Value, s'.heap.get? p.2 = some { cls := .none, data := .fields m } := fun p hp => by
        obtain ⟨m, y⟩ := un.tbls p.2 #[] (S.tb _ (isIn p hp))
        exact ⟨_, ok' p.2 _ y⟩
      refine ⟨rfl, ⟨fun b o e => ?_, fun b o e => ?_⟩, os, bare⟩
      · by_cases m : b ∈ cs.map (·.2)
        · obtain ⟨p, hp, ep⟩ := List.mem_map.mp m
          obtain ⟨ms, em⟩ := more p hp
          have e0 := et p hp
          subst ep
          have eo := Option.some.inj (e.symm.trans e0)
          subst eo
          exact .inr (.inl ⟨((ch p hp).tab e0).isCodeTable, rfl, #[], ms, rfl, by rw [Array.empty_append]; exact em⟩)
        · exact .inl (stay b o m e)
      · by_cases m : b ∈ cs.map (·.2)
        · obtain ⟨p, hp, ep⟩ := List.mem_map.mp m
          obtain ⟨ms, em⟩ := more p hp
          exact ⟨_, ep ▸ em⟩
        · exact ⟨o, stay b o m e⟩
end
/-- what is known of the law behind the top -/
def LawG (l : PySem.W.OpenLaw) (w : World) (K : PySem.W.Frag) (CX : CXT) (k n : Nat) (x : Str) (mg : Str → Option Value) (fa : Addr) (h : Heap) : Prop :=
  ∃ (fd : FuncData) (cs : List (Addr × Addr)) (sp : Sp), (∀ p ∈ cs, EmptyT h p.2) ∧ (∀ p ∈ cs, K.lookup p.2 = none) ∧ (∀ p ∈ cs, PySem.W.CodeHd h p.1 p.2) ∧ (∀ (s : Shared) (u : Value), BindsTo s fd ⟨[u], []⟩ [(x, u)]) ∧
    (∀ (H : Hp) (a : Addr) (ns : List Int), ns.length ≤ n → (∀ i ∈ ns, Builtin.Int.intBits i ≤ 1048576) → (∀ p ∈ cs, H p.2 = some (.tbl #[])) → SqL K H a (ns.map V.int) → sp [.ref a] H (fun v _ => v = .bl true) fun _ _ _ => False) ∧
    ∀ base : Heap, K.In base → base.Ns mainGlobals mg → (∀ p ∈ cs, LamX.TabB base mg p.1 p.2) → FnG l.prog w K mg base CX k fa fd [x] sp
theorem walkG {l : PySem.W.OpenLaw} {n k : Nat} {q : Program} {loose : List Str} {XP : (Str → Option Value) → Heap → Prop} {YP : World → Heap → Prop} {d : DefRec} {CX : World → CXT} {x : Str}
    (most : l.most = some n) (small : n ≤ sizeLine) (nodf : d.params.defaults = []) (room : Room k callerA)
    (F : ∀ (w : World) (mg : Str → Option Value) (fa : Addr) (h : Heap), YP w h → h.Ns mainGlobals mg → mg d.name = some (.ref fa) → ∃ K : PySem.W.Frag, K.In h ∧ LawG l w K (CX w) k n x mg fa h)
    (cx : ∀ (w : World) (H : Hp) (s : Shared) (e : Value) (s' : Shared), CX w [] H s (fun _ _ _ => False) e s' → False) :
    PySem.W.WalkO q loose XP YP l.row.toRowW d [] (fun f vs => PySem.call f vs) := by
  refine Att.attach_callB most nodf fun w s0 z mg mb fa o pm cd doc a vs ns G Y h1 h2 h3 hm ha hi hl bits hg => ?_
  obtain ⟨K, KX, fd, cs, sp, et, kt, ch, bind, hsp, hF⟩ := F w mg fa _ Y G.T.g hm
  exact callG KX G.T.g G.T.b G.T.builtins G.T.nolimit hg et kt ch G.T.bmain ha hi (Nat.le_trans hl small) room hF bind (fun H e1 e2 => hsp H a ns hl bits e1 e2) fun H e s' => cx w H z e s'
/-! ### facts by names -/
theorem funL {K : PySem.W.Frag} {x : Str} {st : Stmt} {f : Addr} {fd : FuncData} (F : FunD K x x (defArgs st) (defBody st) (defScope st) [] [] f fd) : L2.Fun K x x st f fd := by
  obtain ⟨⟨oc, od, dV, kV, doc, pm, an, cdv, ct, osl, rfl, lk, hcd, hD, _⟩, kp⟩ := F
  rcases hD with ⟨_, rfl⟩ | ⟨n, _⟩
  · exact ⟨⟨oc, od, kV, doc, pm, an, cdv, ct, osl, rfl, lk, hcd⟩, kp⟩
  · exact absurd rfl n
theorem funC {K : PySem.W.Frag} {p : Str × Option Str} {x : Str} {st : Stmt} {fd : FuncData} (F : FunD K x x (defArgs st) (defBody st) (defScope st) [] [] (He.fAd K p) fd) : FunC K x x st (He.fAd K p) fd (.ref (He.codeOf K p)) := by
  obtain ⟨⟨oc, od, dV, kV, doc, pm, an, cdv, ct, osl, rfl, lk, hcd, hD, _⟩, kp⟩ := F
  rcases hD with ⟨_, rfl⟩ | ⟨n, _⟩
  · obtain ⟨c, rfl⟩ := He.codeIn_ref hcd
    have e := He.codeOf_eq (c := c) lk rfl
    rw [e]
    exact ⟨⟨oc, od, kV, doc, pm, an, ct, osl, rfl, lk, hcd⟩, kp⟩
  · exact absurd rfl n
/-! constants of the top -/
mutual
def pB (K : PySem.W.Frag) : P → Value → Bool
  | .non, .none => true
  | .bl b, .bool c => b == c
  | .int i, .int j _ => decide (i = j)
  | .str x, .str y _ => decide (x = y)
  | .tup xs, .ref a => match K.lookup a with
    | some ⟨.type c, none, .seq its _, _⟩ => decide (c = "tuple") && (decide (its.size ≤ sizeLine) && pBs K xs its.toList)
    | _ => false
  | _, _ => false
def pBs (K : PySem.W.Frag) : List P → List Value → Bool
  | [], [] => true
  | x :: xs, u :: us => pB K x u && pBs K xs us
  | _, _ => false
end
mutual
theorem pB_ok {K : PySem.W.Frag} : ∀ {x : P} {u : Value}, pB K x u = true → ∃ v, RelV v u ∧ ∀ H, RP K H x v
  | .non, u, h => by
    cases u with
    | none => exact ⟨.non, rfl, fun _ => .non⟩
    | _ => cases h
  | .bl b, u, h => by
    cases u with
    | bool c =>
      have e : b = c := eq_of_beq (show (b == c) = true from h)
      subst e
      exact ⟨.bl b, rfl, fun _ => .bl b⟩
    | _ => cases h
  | .int i, u, h => by
    cases u with
    | int j t =>
      have e : i = j := of_decide_eq_true h
      subst e
      exact ⟨.int i, ⟨t, rfl⟩, fun _ => .int i⟩
    | _ => cases h
  | .str x, u, h => by
    cases u with
    | str y t =>
      have e : x = y := of_decide_eq_true h
      subst e
      exact ⟨.str x, ⟨t, rfl⟩, fun _ => .str x⟩
    | _ => cases h
  | .tup xs, u, h => by
    cases u with
    | ref a =>
      cases q : K.lookup a with
      | none =>
        simp only [pB, q] at h
        cases h
      | some o =>
        obtain ⟨oc, od, dt, osl⟩ := o
        simp only [pB, q] at h
        split at h
        · rename_i c its n sl hq
          cases hq
          obtain ⟨h1, h2⟩ := He.ba h
          obtain ⟨h3, h4⟩ := He.ba h2
          obtain ⟨vs, r, rp⟩ := pBs_ok h4
          exact ⟨.ref a, rfl, fun H => .tup (.inr ⟨_, its, n, q, congrArg Value.type (of_decide_eq_true h1), rfl, rfl, of_decide_eq_true h3, r⟩) (rp H)⟩
        · cases h
    | _ => cases h
theorem pBs_ok {K : PySem.W.Frag} : ∀ {xs : List P} {us : List Value}, pBs K xs us = true → ∃ vs, Vals vs us ∧ ∀ H, RPs K H xs vs
  | [], [], _ => ⟨[], .nil, fun _ => .nil⟩
  | [], _ :: _, h => by cases h
  | _ :: _, [], h => by cases h
  | x :: xs, u :: us, h => by
    obtain ⟨h1, h2⟩ := He.ba (show (pB K x u && pBs K xs us) = true from h)
    obtain ⟨v, r, p⟩ := pB_ok h1
    obtain ⟨vs, rs, ps⟩ := pBs_ok h2
    exact ⟨v :: vs, .cons r rs, fun H => .cons (p H) (ps H)⟩
end
def gB (K : PySem.W.Frag) (x : Str) (p : P) : Bool := match PySem.W.nsIn K mainGlobals x with
  | some (some u) => pB K p u
  | _ => false
theorem gB_ok {K : PySem.W.Frag} {h : Heap} {mg : Str → Option Value} (X : K.In h) (G : h.Ns mainGlobals mg) {x : Str} {p : P} (c : gB K x p = true) : ∃ u v, mg x = some u ∧ RelV v u ∧ ∀ H, RP K H p v := by
  unfold gB at c
  split at c
  · rename_i u e
    obtain ⟨v, r, q⟩ := pB_ok c
    exact ⟨u, v, PySem.W.mg_of X G e, r, q⟩
  · cases c
/-- an own error class -/
def xcls {K : PySem.W.Frag} {h : Heap} {mg : Str → Option Value} (X : K.In h) (G : h.Ns mainGlobals mg) {x : Str} (c1 : (He.Fa.exc x).ok K = true) (c2 : (He.Fa.glo x).ok K = true) : XCls K mg x where
  C := He.ga K x
  bmB := He.veBase
  Bs := "ValueError"
  newId := "ValueError.__new__"
  initId := "ValueError.__init__"
  F := PySem.F.excBase_ValueError
  q := (He.exc_ok c1).1
  gC := He.glo_ok X G c2
  kC := (He.exc_ok c1).2.1
  s1 := (He.exc_ok c1).2.2.1
  s2 := (He.exc_ok c1).2.2.2
/-- the promise of the law's def -/
theorem spK_law [Tbl] {K : PySem.W.Frag} {mg : Str → Option Value} {F : FnS} {H : Hp} {a : Addr} {ns : List Int} (ht : LamX.Tabs Tbl.t H) (hS : SqL K H a (ns.map V.int)) (hF : ∃ Γ, F [.s (.fz (ns.map .int))] = .ok Γ (.p (.bl true))) :
    spK K mg [false] F [.ref a] H (fun v _ => v = .bl true) fun _ _ _ => False := by
  obtain ⟨Γ, e⟩ := hF
  have rps : RPs K H (ns.map P.int) (ns.map V.int) := by
    clear hS e
    induction ns with
    | nil => exact .nil
    | cons n ns ih => exact .cons (.int n) ih
  let T : AP := fun b => b = a ∧ MutE H b
  have fz : Frz K H a (ns.map V.int) T := by
    rcases hS with (h | ⟨o, h⟩) | h
    · exact .inl ⟨h, rfl, .inl ⟨_, h⟩⟩
    · exact .inr (.inl ⟨o, h⟩)
    · obtain ⟨o, its, n, h1, h2, h3, h4, h5, h6⟩ := h
      exact .inr (.inr ⟨o, its, n, h1, h2, h3, h4, h5, h6⟩)
  refine ⟨⟨H, No, T, []⟩, [.s (.fz (ns.map .int))], rfl, rfl, rfl, ⟨⟨No, No, T, .full (m := No) (M := No) (.s (.fz fz rps)) .nil Sep.no Le.no Le.no, .nil, Sep.no, Sep.no.u Sep.no, ?_⟩, fun q h => by cases h⟩, ?_⟩
  · refine ⟨fun b o _ e _ => e, fun b h => h, fun b h => ?_, fun b h => .inr (.inl h), fun b h => ?_, fun b h => h.2, ht⟩
    · rcases h with h | h <;> exact h.elim
    · rcases h with h | h <;> exact h.elim
  · rw [e]
    intro _ H' v σ' r
    have := r.topP
    cases this
    rfl
end Kv

set_option Elab.async false
set_option linter.all false
set_option maxRecDepth 100000
set_option maxHeartbeats 0
set_option autoImplicit false
/-! the end, printed by genz.py -/
namespace Kv.W
open PySem PySem.Spec L2 Kv
def d_is_value : He.DefD := ⟨("is_value", none), "is_value", "is_value", defArgs st_is_value, defBody st_is_value, defScope st_is_value, [], []⟩
def d_is_row : He.DefD := ⟨("is_row", none), "is_row", "is_row", defArgs st_is_row, defBody st_is_row, defScope st_is_row, [], []⟩
def d_is_number : He.DefD := ⟨("is_number", none), "is_number", "is_number", defArgs st_is_number, defBody st_is_number, defScope st_is_number, [], []⟩
def d_unlike_of : He.DefD := ⟨("unlike_of", none), "unlike_of", "unlike_of", defArgs st_unlike_of, defBody st_unlike_of, defScope st_unlike_of, [], []⟩
def d_is_stand : He.DefD := ⟨("is_stand", none), "is_stand", "is_stand", defArgs st_is_stand, defBody st_is_stand, defScope st_is_stand, [], []⟩
def d_sign_at : He.DefD := ⟨("sign_at", none), "sign_at", "sign_at", defArgs st_sign_at, defBody st_sign_at, defScope st_sign_at, [], []⟩
def d_stand_behind : He.DefD := ⟨("stand_behind", none), "stand_behind", "stand_behind", defArgs st_stand_behind, defBody st_stand_behind, defScope st_stand_behind, [], []⟩
def d_first_stream : He.DefD := ⟨("first_stream", none), "first_stream", "first_stream", defArgs st_first_stream, defBody st_first_stream, defScope st_first_stream, [], []⟩
def d_is_stream : He.DefD := ⟨("is_stream", none), "is_stream", "is_stream", defArgs st_is_stream, defBody st_is_stream, defScope st_is_stream, [], []⟩
def d_present_stand : He.DefD := ⟨("present_stand", none), "present_stand", "present_stand", defArgs st_present_stand, defBody st_present_stand, defScope st_present_stand, [], []⟩
def d_fed : He.DefD := ⟨("fed", none), "fed", "fed", defArgs st_fed, defBody st_fed, defScope st_fed, [], []⟩
def d_taken_back : He.DefD := ⟨("taken_back", none), "taken_back", "taken_back", defArgs st_taken_back, defBody st_taken_back, defScope st_taken_back, [], []⟩
def d_values_kept : He.DefD := ⟨("values_kept", none), "values_kept", "values_kept", defArgs st_values_kept, defBody st_values_kept, defScope st_values_kept, [], []⟩
def d_says_yes_now : He.DefD := ⟨("says_yes_now", none), "says_yes_now", "says_yes_now", defArgs st_says_yes_now, defBody st_says_yes_now, defScope st_says_yes_now, [], []⟩
def d_fresh_values : He.DefD := ⟨("fresh_values", none), "fresh_values", "fresh_values", defArgs st_fresh_values, defBody st_fresh_values, defScope st_fresh_values, [], []⟩
def d_ways_to_modes : He.DefD := ⟨("ways_to_modes", none), "ways_to_modes", "ways_to_modes", defArgs st_ways_to_modes, defBody st_ways_to_modes, defScope st_ways_to_modes, [], []⟩
def d_marks_read : He.DefD := ⟨("marks_read", none), "marks_read", "marks_read", defArgs st_marks_read, defBody st_marks_read, defScope st_marks_read, [], []⟩
def d_short_row : He.DefD := ⟨("short_row", none), "short_row", "short_row", defArgs st_short_row, defBody st_short_row, defScope st_short_row, [], []⟩
def d__law_source : He.DefD := ⟨("_law_source", none), "_law_source", "_law_source", defArgs st__law_source, defBody st__law_source, defScope st__law_source, [], []⟩
def d__law_pick : He.DefD := ⟨("_law_pick", none), "_law_pick", "_law_pick", defArgs st__law_pick, defBody st__law_pick, defScope st__law_pick, [], []⟩
def d__law_of : He.DefD := ⟨("_law_of", none), "_law_of", "_law_of", defArgs st__law_of, defBody st__law_of, defScope st__law_of, [], []⟩
def d__law_mixed : He.DefD := ⟨("_law_mixed", none), "_law_mixed", "_law_mixed", defArgs st__law_mixed, defBody st__law_mixed, defScope st__law_mixed, [], []⟩
def d__law_machine : He.DefD := ⟨("_law_machine", none), "_law_machine", "_law_machine", defArgs st__law_machine, defBody st__law_machine, defScope st__law_machine, [], []⟩
def d__law_read : He.DefD := ⟨("_law_read", none), "_law_read", "_law_read", defArgs st__law_read, defBody st__law_read, defScope st__law_read, [], []⟩
def d__law_depths : He.DefD := ⟨("_law_depths", none), "_law_depths", "_law_depths", defArgs st__law_depths, defBody st__law_depths, defScope st__law_depths, [], []⟩
def d__law_short_right : He.DefD := ⟨("_law_short_right", none), "_law_short_right", "_law_short_right", defArgs st__law_short_right, defBody st__law_short_right, defScope st__law_short_right, [], []⟩
def d_law : He.DefD := ⟨("law", none), "law", "law", defArgs st_law, defBody st_law, defScope st_law, [], []⟩
def d__law_told : He.DefD := ⟨("_law_told", none), "_law_told", "_law_told", defArgs (top 38), defBody (top 38), defScope (top 38), [], []⟩
def fn : List He.DefD := [d_is_value, d_is_row, d_is_number, d_unlike_of, d_is_stand, d_sign_at, d_stand_behind, d_first_stream, d_is_stream, d_present_stand, d_fed, d_taken_back, d_values_kept, d_says_yes_now, d_fresh_values, d_ways_to_modes, d_marks_read, d_short_row, d__law_source, d__law_pick, d__law_of, d__law_mixed, d__law_machine, d__law_read, d__law_depths, d__law_short_right, d_law, d__law_told]
def fa0 : List He.Fa := [.glo "is_value", .glo "is_row", .glo "is_number", .glo "unlike_of", .glo "is_stand", .glo "sign_at", .glo "stand_behind", .glo "first_stream", .glo "is_stream", .glo "present_stand", .glo "fed", .glo "taken_back", .glo "values_kept", .glo "says_yes_now", .glo "fresh_values", .glo "ways_to_modes", .glo "marks_read", .glo "short_row", .glo "_law_source", .glo "_law_pick", .glo "_law_of", .glo "_law_mixed", .glo "_law_machine", .glo "_law_read", .glo "_law_depths", .glo "_law_short_right", .glo "law", .glo "_law_told", .glo "NotOfIt", .glo "NothingDone"]
def fa1 : List He.Fa := [.free "abs", .free "all", .free "bool", .free "dict", .free "enumerate", .free "int", .free "isinstance", .free "len", .free "list", .free "max", .free "range", .free "repr", .free "str", .free "tuple", .free "zip", .exc "NotOfIt", .exc "NothingDone", .exm "NothingDone" "NothingDone" true, .exm "NothingDone" "NotOfIt" false, .exm "NotOfIt" "NothingDone" false, .exm "NotOfIt" "NotOfIt" true]
def fa : List He.Fa := fa0 ++ fa1
def tf : List He.Defn := [("_law_short_right", none), ("law", none)]
def ex (K : PySem.W.Frag) : Bool := (!((He.cT K ("law", none)).2 == (He.cT K ("_law_short_right", none)).2)) && (gB K "SMALL" g_SMALL) && (gB K "MOST_SIGNS" g_MOST_SIGNS) && (gB K "MOST_ROW" g_MOST_ROW) && (gB K "FIRST" g_FIRST) && (gB K "FIGURES" g_FIGURES)
def nm0 : List PySem.Str := ["KeepError", "NotOfIt", "NothingDone", "SMALL", "FIGURES", "MOST_SIGNS", "MOST_ROW", "is_value", "is_row", "is_number", "unlike_of", "is_stand", "sign_at", "stand_behind", "FIRST", "first_stream", "is_stream", "present_stand", "fed", "taken_back", "values_kept", "says_yes_now", "fresh_values", "ways_to_modes", "marks_read", "short_row", "_law_source", "_law_pick", "_law_of", "_law_mixed"]
def nm1 : List PySem.Str := ["_law_machine", "_law_read", "_law_told", "_law_depths", "_law_short_right"]
def nm : List PySem.Str := nm0 ++ nm1
abbrev R : PySem.W.OpenRow := PySem.W.OpenLaw.row PySem.Challenge.rw_keptvalues_k46_streams_and_versions
abbrev hk : PySem.W.Hook := He.hookX 4 fa fn [] tf ex
def ob (s : PySem.W.SharedT) : He.AlX := He.obsX 4 fa fn [] tf ex (HandSHeadRun.getT s)
theorem ob_eq (s : PySem.W.SharedT) : ob s = hk.obs s.abs := He.obsX_eq (HandSHeadRun.getT_eq s)
theorem run (w : World) : HandSHeadRun.RunEq R (PySem.W.view R.prog [41]) hk ob 4000 nm w := by
  intro os
  kernel_rfl
end Kv.W

set_option Elab.async false
set_option linter.all false
set_option maxRecDepth 100000
set_option maxHeartbeats 0
set_option autoImplicit false
namespace Kv.W
open PySem PySem.Spec L2 Kv
section
variable {K : PySem.W.Frag} {h : Heap} {mg : Str → Option Value} {w : World}
theorem ex_split {a b : Bool} (h : (a && b) = true) : a = true ∧ b = true := Bool.and_eq_true_iff.mp h
theorem txt_ex [Tbl] (X : K.In h) (G : h.Ns mainGlobals mg) (c : He.SaysX fa fn [] tf ex w h K) : ∃ T : Txt K mg, (∀ (s : Shared) (u : Value), BindsTo s T.fd_law ⟨[u], []⟩ [("script", u)]) ∧ T.a_law = He.ga K "law" ∧ (T.c__law_short_right, T.P__law_short_right) = He.cT K ("_law_short_right", none) ∧ (T.c_law, T.P_law) = He.cT K ("law", none) := by
  obtain ⟨fd_is_value, D_is_value⟩ := c.t.d.def_ 0 (d := d_is_value) rfl
  obtain ⟨fd_is_row, D_is_row⟩ := c.t.d.def_ 1 (d := d_is_row) rfl
  obtain ⟨fd_is_number, D_is_number⟩ := c.t.d.def_ 2 (d := d_is_number) rfl
  obtain ⟨fd_unlike_of, D_unlike_of⟩ := c.t.d.def_ 3 (d := d_unlike_of) rfl
  obtain ⟨fd_is_stand, D_is_stand⟩ := c.t.d.def_ 4 (d := d_is_stand) rfl
  obtain ⟨fd_sign_at, D_sign_at⟩ := c.t.d.def_ 5 (d := d_sign_at) rfl
  obtain ⟨fd_stand_behind, D_stand_behind⟩ := c.t.d.def_ 6 (d := d_stand_behind) rfl
  obtain ⟨fd_first_stream, D_first_stream⟩ := c.t.d.def_ 7 (d := d_first_stream) rfl
  obtain ⟨fd_is_stream, D_is_stream⟩ := c.t.d.def_ 8 (d := d_is_stream) rfl
  obtain ⟨fd_present_stand, D_present_stand⟩ := c.t.d.def_ 9 (d := d_present_stand) rfl
  obtain ⟨fd_fed, D_fed⟩ := c.t.d.def_ 10 (d := d_fed) rfl
  obtain ⟨fd_taken_back, D_taken_back⟩ := c.t.d.def_ 11 (d := d_taken_back) rfl
  obtain ⟨fd_values_kept, D_values_kept⟩ := c.t.d.def_ 12 (d := d_values_kept) rfl
  obtain ⟨fd_says_yes_now, D_says_yes_now⟩ := c.t.d.def_ 13 (d := d_says_yes_now) rfl
  obtain ⟨fd_fresh_values, D_fresh_values⟩ := c.t.d.def_ 14 (d := d_fresh_values) rfl
  obtain ⟨fd_ways_to_modes, D_ways_to_modes⟩ := c.t.d.def_ 15 (d := d_ways_to_modes) rfl
  obtain ⟨fd_marks_read, D_marks_read⟩ := c.t.d.def_ 16 (d := d_marks_read) rfl
  obtain ⟨fd_short_row, D_short_row⟩ := c.t.d.def_ 17 (d := d_short_row) rfl
  obtain ⟨fd__law_source, D__law_source⟩ := c.t.d.def_ 18 (d := d__law_source) rfl
  obtain ⟨fd__law_pick, D__law_pick⟩ := c.t.d.def_ 19 (d := d__law_pick) rfl
  obtain ⟨fd__law_of, D__law_of⟩ := c.t.d.def_ 20 (d := d__law_of) rfl
  obtain ⟨fd__law_mixed, D__law_mixed⟩ := c.t.d.def_ 21 (d := d__law_mixed) rfl
  obtain ⟨fd__law_machine, D__law_machine⟩ := c.t.d.def_ 22 (d := d__law_machine) rfl
  obtain ⟨fd__law_read, D__law_read⟩ := c.t.d.def_ 23 (d := d__law_read) rfl
  obtain ⟨fd__law_depths, D__law_depths⟩ := c.t.d.def_ 24 (d := d__law_depths) rfl
  obtain ⟨fd__law_short_right, D__law_short_right⟩ := c.t.d.def_ 25 (d := d__law_short_right) rfl
  obtain ⟨fd_law, D_law⟩ := c.t.d.def_ 26 (d := d_law) rfl
  obtain ⟨fd__law_told, D__law_told⟩ := c.t.d.def_ 27 (d := d__law_told) rfl
  have hex : ex K = true := c.more
  unfold ex at hex
  obtain ⟨q1, x0⟩ := ex_split hex
  obtain ⟨q2, x1⟩ := ex_split q1
  obtain ⟨q3, x2⟩ := ex_split q2
  obtain ⟨q4, x3⟩ := ex_split q3
  obtain ⟨q5, x4⟩ := ex_split q4
  have x5 := q5
  obtain ⟨u_FIGURES, v_FIGURES, m_FIGURES, r_FIGURES, p_FIGURES⟩ := gB_ok X G x0
  obtain ⟨u_FIRST, v_FIRST, m_FIRST, r_FIRST, p_FIRST⟩ := gB_ok X G x1
  obtain ⟨u_MOST_ROW, v_MOST_ROW, m_MOST_ROW, r_MOST_ROW, p_MOST_ROW⟩ := gB_ok X G x2
  obtain ⟨u_MOST_SIGNS, v_MOST_SIGNS, m_MOST_SIGNS, r_MOST_SIGNS, p_MOST_SIGNS⟩ := gB_ok X G x3
  obtain ⟨u_SMALL, v_SMALL, m_SMALL, r_SMALL, p_SMALL⟩ := gB_ok X G x4
  have gl_NotOfIt : mg "NotOfIt" = some (.ref (He.ga K "NotOfIt")) := He.glo_ok X G (c.t.d.fact 28 (f := .glo "NotOfIt") rfl)
  have gl_NothingDone : mg "NothingDone" = some (.ref (He.ga K "NothingDone")) := He.glo_ok X G (c.t.d.fact 29 (f := .glo "NothingDone") rfl)
  have hNm : ∀ (i : Nat) (q : Str × Str) (v : Value × Str), ([("NothingDone", "nothing"), ("NotOfIt", "not")] : List (Str × Str))[i]? = some q → ([(.ref (He.ga K "NothingDone"), "nothing"), (.ref (He.ga K "NotOfIt"), "not")] : List (Value × Str))[i]? = some v → mg q.1 = some v.1 := fun i q v h1 h2 => by
      match i, h1, h2 with
      | 0, h1, h2 => cases h1; cases h2; exact gl_NothingDone
      | 1, h1, h2 => cases h1; cases h2; exact gl_NotOfIt
      | i + 2, h1, h2 => simp at h1
  have hEx : ∀ n ∈ (["NothingDone", "NotOfIt"] : List Str), ∀ u, mg n = some u → ∀ q ∈ ([("NothingDone", "nothing"), ("NotOfIt", "not")] : List (Str × Str)), ∀ v, mg q.1 = some v → PySem.W.exmOne K u v = some (decide (q.1 = n)) := fun n hn u hu q hq v hv => by
      simp only [List.mem_cons, List.not_mem_nil, or_false] at hn hq
      rcases hn with rfl | rfl <;> rcases hq with rfl | rfl
      · cases (gl_NothingDone.symm.trans hu); cases (gl_NothingDone.symm.trans hv); rw [He.exm_ok (c.t.d.fact 47 (f := .exm "NothingDone" "NothingDone" true) rfl)]; exact congrArg some (by decide +kernel)
      · cases (gl_NothingDone.symm.trans hu); cases (gl_NotOfIt.symm.trans hv); rw [He.exm_ok (c.t.d.fact 48 (f := .exm "NothingDone" "NotOfIt" false) rfl)]; exact congrArg some (by decide +kernel)
      · cases (gl_NotOfIt.symm.trans hu); cases (gl_NothingDone.symm.trans hv); rw [He.exm_ok (c.t.d.fact 49 (f := .exm "NotOfIt" "NothingDone" false) rfl)]; exact congrArg some (by decide +kernel)
      · cases (gl_NotOfIt.symm.trans hu); cases (gl_NotOfIt.symm.trans hv); rw [He.exm_ok (c.t.d.fact 50 (f := .exm "NotOfIt" "NotOfIt" true) rfl)]; exact congrArg some (by decide +kernel)
  refine ⟨{
    told := { f := He.ga K "_law_told", fd := fd__law_told, cdv := .ref (He.codeOf K ("_law_told", none)), F := funC (p := ("_law_told", none)) D__law_told, m := He.glo_ok X G (c.t.d.fact 27 (f := .glo "_law_told") rfl), bi := FunD.bindsN D__law_told fun _ _ _ _ _ _ us hl => match us, hl with | [_], _ => rfl, Ng := ["call"], Sg := ⟨rfl, rfl, rfl, by decide +kernel, rfl, by decide +kernel, by decide +kernel⟩, hN := rfl, va := (by first | exact .inl rfl | exact .inr (.inl rfl) | exact .inr (.inr rfl)), h0 := fun _ => rfl, lv := [(.ref (He.ga K "NothingDone"), "nothing"), (.ref (He.ga K "NotOfIt"), "not")], body := ⟨_, _, _, _, _, _, _, _, _, _, rfl, .cons (by rfl) gl_NothingDone (by decide) (.cons (by rfl) gl_NotOfIt (by decide) (.nil))⟩, T := ⟨rfl, hNm, hEx⟩ },
    a_is_value := He.ga K "is_value",
    fd_is_value := fd_is_value,
    F_is_value := funL D_is_value,
    m_is_value := He.glo_ok X G (c.t.d.fact 0 (f := .glo "is_value") rfl),
    bi_is_value := FunD.bindsN D_is_value fun _ _ _ _ _ _ us hl => match us, hl with | [_], _ => rfl,
    a_is_row := He.ga K "is_row",
    fd_is_row := fd_is_row,
    F_is_row := funL D_is_row,
    m_is_row := He.glo_ok X G (c.t.d.fact 1 (f := .glo "is_row") rfl),
    bi_is_row := FunD.bindsN D_is_row fun _ _ _ _ _ _ us hl => match us, hl with | [_], _ => rfl,
    a_is_number := He.ga K "is_number",
    fd_is_number := fd_is_number,
    F_is_number := funL D_is_number,
    m_is_number := He.glo_ok X G (c.t.d.fact 2 (f := .glo "is_number") rfl),
    bi_is_number := FunD.bindsN D_is_number fun _ _ _ _ _ _ us hl => match us, hl with | [_, _], _ => rfl,
    a_unlike_of := He.ga K "unlike_of",
    fd_unlike_of := fd_unlike_of,
    F_unlike_of := funL D_unlike_of,
    m_unlike_of := He.glo_ok X G (c.t.d.fact 3 (f := .glo "unlike_of") rfl),
    bi_unlike_of := FunD.bindsN D_unlike_of fun _ _ _ _ _ _ us hl => match us, hl with | [_], _ => rfl,
    a_is_stand := He.ga K "is_stand",
    fd_is_stand := fd_is_stand,
    F_is_stand := funL D_is_stand,
    m_is_stand := He.glo_ok X G (c.t.d.fact 4 (f := .glo "is_stand") rfl),
    bi_is_stand := FunD.bindsN D_is_stand fun _ _ _ _ _ _ us hl => match us, hl with | [_, _], _ => rfl,
    a_sign_at := He.ga K "sign_at",
    fd_sign_at := fd_sign_at,
    F_sign_at := funL D_sign_at,
    m_sign_at := He.glo_ok X G (c.t.d.fact 5 (f := .glo "sign_at") rfl),
    bi_sign_at := FunD.bindsN D_sign_at fun _ _ _ _ _ _ us hl => match us, hl with | [_, _, _], _ => rfl,
    a_stand_behind := He.ga K "stand_behind",
    fd_stand_behind := fd_stand_behind,
    F_stand_behind := funL D_stand_behind,
    m_stand_behind := He.glo_ok X G (c.t.d.fact 6 (f := .glo "stand_behind") rfl),
    bi_stand_behind := FunD.bindsN D_stand_behind fun _ _ _ _ _ _ us hl => match us, hl with | [_, _, _], _ => rfl,
    a_first_stream := He.ga K "first_stream",
    fd_first_stream := fd_first_stream,
    F_first_stream := funL D_first_stream,
    m_first_stream := He.glo_ok X G (c.t.d.fact 7 (f := .glo "first_stream") rfl),
    bi_first_stream := FunD.bindsN D_first_stream fun _ _ _ _ _ _ us hl => match us, hl with | [], _ => rfl,
    a_is_stream := He.ga K "is_stream",
    fd_is_stream := fd_is_stream,
    F_is_stream := funL D_is_stream,
    m_is_stream := He.glo_ok X G (c.t.d.fact 8 (f := .glo "is_stream") rfl),
    bi_is_stream := FunD.bindsN D_is_stream fun _ _ _ _ _ _ us hl => match us, hl with | [_, _], _ => rfl,
    a_present_stand := He.ga K "present_stand",
    fd_present_stand := fd_present_stand,
    F_present_stand := funL D_present_stand,
    m_present_stand := He.glo_ok X G (c.t.d.fact 9 (f := .glo "present_stand") rfl),
    bi_present_stand := FunD.bindsN D_present_stand fun _ _ _ _ _ _ us hl => match us, hl with | [_], _ => rfl,
    a_fed := He.ga K "fed",
    fd_fed := fd_fed,
    F_fed := funL D_fed,
    m_fed := He.glo_ok X G (c.t.d.fact 10 (f := .glo "fed") rfl),
    bi_fed := FunD.bindsN D_fed fun _ _ _ _ _ _ us hl => match us, hl with | [_, _, _], _ => rfl,
    a_taken_back := He.ga K "taken_back",
    fd_taken_back := fd_taken_back,
    F_taken_back := funL D_taken_back,
    m_taken_back := He.glo_ok X G (c.t.d.fact 11 (f := .glo "taken_back") rfl),
    bi_taken_back := FunD.bindsN D_taken_back fun _ _ _ _ _ _ us hl => match us, hl with | [_], _ => rfl,
    a_values_kept := He.ga K "values_kept",
    fd_values_kept := fd_values_kept,
    F_values_kept := funL D_values_kept,
    m_values_kept := He.glo_ok X G (c.t.d.fact 12 (f := .glo "values_kept") rfl),
    bi_values_kept := FunD.bindsN D_values_kept fun _ _ _ _ _ _ us hl => match us, hl with | [_], _ => rfl,
    a_says_yes_now := He.ga K "says_yes_now",
    fd_says_yes_now := fd_says_yes_now,
    F_says_yes_now := funL D_says_yes_now,
    m_says_yes_now := He.glo_ok X G (c.t.d.fact 13 (f := .glo "says_yes_now") rfl),
    bi_says_yes_now := FunD.bindsN D_says_yes_now fun _ _ _ _ _ _ us hl => match us, hl with | [_, _], _ => rfl,
    a_fresh_values := He.ga K "fresh_values",
    fd_fresh_values := fd_fresh_values,
    F_fresh_values := funL D_fresh_values,
    m_fresh_values := He.glo_ok X G (c.t.d.fact 14 (f := .glo "fresh_values") rfl),
    bi_fresh_values := FunD.bindsN D_fresh_values fun _ _ _ _ _ _ us hl => match us, hl with | [_, _, _], _ => rfl,
    a_ways_to_modes := He.ga K "ways_to_modes",
    fd_ways_to_modes := fd_ways_to_modes,
    F_ways_to_modes := funL D_ways_to_modes,
    m_ways_to_modes := He.glo_ok X G (c.t.d.fact 15 (f := .glo "ways_to_modes") rfl),
    bi_ways_to_modes := FunD.bindsN D_ways_to_modes fun _ _ _ _ _ _ us hl => match us, hl with | [_], _ => rfl,
    a_marks_read := He.ga K "marks_read",
    fd_marks_read := fd_marks_read,
    F_marks_read := funL D_marks_read,
    m_marks_read := He.glo_ok X G (c.t.d.fact 16 (f := .glo "marks_read") rfl),
    bi_marks_read := FunD.bindsN D_marks_read fun _ _ _ _ _ _ us hl => match us, hl with | [_, _], _ => rfl,
    a_short_row := He.ga K "short_row",
    fd_short_row := fd_short_row,
    F_short_row := funL D_short_row,
    m_short_row := He.glo_ok X G (c.t.d.fact 17 (f := .glo "short_row") rfl),
    bi_short_row := FunD.bindsN D_short_row fun _ _ _ _ _ _ us hl => match us, hl with | [_, _], _ => rfl,
    a__law_source := He.ga K "_law_source",
    fd__law_source := fd__law_source,
    F__law_source := funL D__law_source,
    m__law_source := He.glo_ok X G (c.t.d.fact 18 (f := .glo "_law_source") rfl),
    bi__law_source := FunD.bindsN D__law_source fun _ _ _ _ _ _ us hl => match us, hl with | [_], _ => rfl,
    a__law_pick := He.ga K "_law_pick",
    fd__law_pick := fd__law_pick,
    F__law_pick := funL D__law_pick,
    m__law_pick := He.glo_ok X G (c.t.d.fact 19 (f := .glo "_law_pick") rfl),
    bi__law_pick := FunD.bindsN D__law_pick fun _ _ _ _ _ _ us hl => match us, hl with | [_, _], _ => rfl,
    a__law_of := He.ga K "_law_of",
    fd__law_of := fd__law_of,
    F__law_of := funL D__law_of,
    m__law_of := He.glo_ok X G (c.t.d.fact 20 (f := .glo "_law_of") rfl),
    bi__law_of := FunD.bindsN D__law_of fun _ _ _ _ _ _ us hl => match us, hl with | [_, _], _ => rfl,
    a__law_mixed := He.ga K "_law_mixed",
    fd__law_mixed := fd__law_mixed,
    F__law_mixed := funL D__law_mixed,
    m__law_mixed := He.glo_ok X G (c.t.d.fact 21 (f := .glo "_law_mixed") rfl),
    bi__law_mixed := FunD.bindsN D__law_mixed fun _ _ _ _ _ _ us hl => match us, hl with | [_, _], _ => rfl,
    a__law_machine := He.ga K "_law_machine",
    fd__law_machine := fd__law_machine,
    F__law_machine := funL D__law_machine,
    m__law_machine := He.glo_ok X G (c.t.d.fact 22 (f := .glo "_law_machine") rfl),
    bi__law_machine := FunD.bindsN D__law_machine fun _ _ _ _ _ _ us hl => match us, hl with | [_, _], _ => rfl,
    a__law_read := He.ga K "_law_read",
    fd__law_read := fd__law_read,
    F__law_read := funL D__law_read,
    m__law_read := He.glo_ok X G (c.t.d.fact 23 (f := .glo "_law_read") rfl),
    bi__law_read := FunD.bindsN D__law_read fun _ _ _ _ _ _ us hl => match us, hl with | [_, _, _], _ => rfl,
    a__law_depths := He.ga K "_law_depths",
    fd__law_depths := fd__law_depths,
    F__law_depths := funL D__law_depths,
    m__law_depths := He.glo_ok X G (c.t.d.fact 24 (f := .glo "_law_depths") rfl),
    bi__law_depths := FunD.bindsN D__law_depths fun _ _ _ _ _ _ us hl => match us, hl with | [_], _ => rfl,
    a__law_short_right := He.ga K "_law_short_right",
    fd__law_short_right := fd__law_short_right,
    F__law_short_right := funC (p := ("_law_short_right", none)) D__law_short_right,
    c__law_short_right := He.codeOf K ("_law_short_right", none),
    P__law_short_right := He.tabOf K (He.codeOf K ("_law_short_right", none)),
    m__law_short_right := He.glo_ok X G (c.t.d.fact 25 (f := .glo "_law_short_right") rfl),
    bi__law_short_right := FunD.bindsN D__law_short_right fun _ _ _ _ _ _ us hl => match us, hl with | [_, _], _ => rfl,
    a_law := He.ga K "law",
    fd_law := fd_law,
    F_law := funC (p := ("law", none)) D_law,
    c_law := He.codeOf K ("law", none),
    P_law := He.tabOf K (He.codeOf K ("law", none)),
    m_law := He.glo_ok X G (c.t.d.fact 26 (f := .glo "law") rfl),
    bi_law := FunD.bindsN D_law fun _ _ _ _ _ _ us hl => match us, hl with | [_], _ => rfl,
    x_NotOfIt := xcls X G (c.t.d.fact 45 (f := .exc "NotOfIt") rfl) (c.t.d.fact 28 (f := .glo "NotOfIt") rfl),
    x_NothingDone := xcls X G (c.t.d.fact 46 (f := .exc "NothingDone") rfl) (c.t.d.fact 29 (f := .glo "NothingDone") rfl),
    b_abs := He.free_ok X G (c.t.d.fact 30 (f := .free "abs") rfl),
    b_all := He.free_ok X G (c.t.d.fact 31 (f := .free "all") rfl),
    b_bool := He.free_ok X G (c.t.d.fact 32 (f := .free "bool") rfl),
    b_dict := He.free_ok X G (c.t.d.fact 33 (f := .free "dict") rfl),
    b_enumerate := He.free_ok X G (c.t.d.fact 34 (f := .free "enumerate") rfl),
    b_int := He.free_ok X G (c.t.d.fact 35 (f := .free "int") rfl),
    b_isinstance := He.free_ok X G (c.t.d.fact 36 (f := .free "isinstance") rfl),
    b_len := He.free_ok X G (c.t.d.fact 37 (f := .free "len") rfl),
    b_list := He.free_ok X G (c.t.d.fact 38 (f := .free "list") rfl),
    b_max := He.free_ok X G (c.t.d.fact 39 (f := .free "max") rfl),
    b_range := He.free_ok X G (c.t.d.fact 40 (f := .free "range") rfl),
    b_repr := He.free_ok X G (c.t.d.fact 41 (f := .free "repr") rfl),
    b_str := He.free_ok X G (c.t.d.fact 42 (f := .free "str") rfl),
    b_tuple := He.free_ok X G (c.t.d.fact 43 (f := .free "tuple") rfl),
    b_zip := He.free_ok X G (c.t.d.fact 44 (f := .free "zip") rfl),
    u_FIGURES := u_FIGURES,
    v_FIGURES := v_FIGURES,
    m_FIGURES := m_FIGURES,
    r_FIGURES := r_FIGURES,
    p_FIGURES := p_FIGURES,
    u_FIRST := u_FIRST,
    v_FIRST := v_FIRST,
    m_FIRST := m_FIRST,
    r_FIRST := r_FIRST,
    p_FIRST := p_FIRST,
    u_MOST_ROW := u_MOST_ROW,
    v_MOST_ROW := v_MOST_ROW,
    m_MOST_ROW := m_MOST_ROW,
    r_MOST_ROW := r_MOST_ROW,
    p_MOST_ROW := p_MOST_ROW,
    u_MOST_SIGNS := u_MOST_SIGNS,
    v_MOST_SIGNS := v_MOST_SIGNS,
    m_MOST_SIGNS := m_MOST_SIGNS,
    r_MOST_SIGNS := r_MOST_SIGNS,
    p_MOST_SIGNS := p_MOST_SIGNS,
    u_SMALL := u_SMALL,
    v_SMALL := v_SMALL,
    m_SMALL := m_SMALL,
    r_SMALL := r_SMALL,
    p_SMALL := p_SMALL }, ?_, rfl, rfl, rfl⟩
  exact fun s u => FunD.bindsA D_law (ps := ["script"]) (fun _ _ _ _ _ _ us hl => match us, hl with | [_], _ => rfl) s [u] rfl
theorem dist_0_1 {K : PySem.W.Frag} {h : Heap} {w : World} (c : He.SaysX fa fn [] tf ex w h K) : (He.cT K ("law", none)).2 ≠ (He.cT K ("_law_short_right", none)).2 := by
  have hex : ex K = true := c.more
  unfold ex at hex
  obtain ⟨q1, x0⟩ := ex_split hex
  obtain ⟨q2, x1⟩ := ex_split q1
  obtain ⟨q3, x2⟩ := ex_split q2
  obtain ⟨q4, x3⟩ := ex_split q3
  obtain ⟨q5, x4⟩ := ex_split q4
  intro e
  rw [e] at q5
  simp at q5
end
section
open PySem.W PySem.Calls
abbrev RL : PySem.W.OpenRow := OpenLaw.row PySem.Challenge.rw_keptvalues_k46_streams_and_versions
abbrev qL : Program := view RL.prog [41]
abbrev dL : DefRec := HandSHeadRun.topDef RL.prog 41
theorem h_e : opening RL.prog = plainProg RL.prog.main.scope.names := by kernel_rfl
theorem h_f : ∀ s, fenceModules? RL.prog s = some s := fun s => by kernel_rfl
theorem h_def : defOf qL RL.name = some (dL, []) := by kernel_rfl
theorem h_p : RL.prog.theDef RL.name = some (dL.params, dL.body, dL.scope) := by kernel_rfl
theorem h_k : kwWritten? dL.params.kwonlyargs dL.params.kw_defaults = some [] := by kernel_rfl
theorem h_ok : (chainsOk qL && opensWell RL.prog && (frees RL.toRowW && RL.within.isEmpty)) = true := by decide +kernel
theorem h_bare : RL.prog.bare := ⟨rfl, rfl, rfl, rfl, rfl, by decide +kernel⟩
end
end Kv.W
open PySem PySem.W PySem.Calls PyProof.Rows
set_option maxRecDepth 100000 in
set_option maxHeartbeats 0 in
theorem PySem.Challenge.cw_keptvalues_k46_streams_and_versions_holds : PySem.Challenge.rw_keptvalues_k46_streams_and_versions.Holds := by
  w_on; o_law
  refine HandSHeadRun.head_any (r := OpenLaw.row PySem.Challenge.rw_keptvalues_k46_streams_and_versions) (q := view (OpenLaw.row PySem.Challenge.rw_keptvalues_k46_streams_and_versions).prog [41]) (H := Kv.W.hk) (ob := Kv.W.ob) (M := 4000) (loose := Kv.W.nm) (d := HandSHeadRun.topDef (OpenLaw.row PySem.Challenge.rw_keptvalues_k46_streams_and_versions).prog 41) (kwd := []) Kv.W.ob_eq
    Kv.W.h_e Kv.W.h_f Kv.W.run Kv.W.h_def Kv.W.h_p Kv.W.h_k (by rfl) (by first | assumption | decide +kernel) Kv.W.h_ok Kv.W.h_bare ?hw ?hc
  case hw => w_witness2
  case hc =>
    refine Kv.walkG (l := PySem.Challenge.rw_keptvalues_k46_streams_and_versions) (n := 63) (k := 6) (x := "script") (CX := fun w => L2.CX (PySem.Challenge.rw_keptvalues_k46_streams_and_versions).prog w) rfl (by decide) (by kernel_rfl) ⟨rfl, by decide, by decide⟩ ?F (fun _ _ _ _ _ z => by obtain ⟨_, _, _, _, _, _, _, _, _, _, _, _, q⟩ := z; exact q)
    intro w mg fa h Y G hmg0
    obtain ⟨K, KX, c⟩ := Y
    have hmg : mg ("law" : PySem.Str) = some (.ref fa) := by
      have e : (HandSHeadRun.topDef (OpenLaw.row PySem.Challenge.rw_keptvalues_k46_streams_and_versions).prog 41).name = ("law" : PySem.Str) := by kernel_rfl
      rw [← e]
      exact hmg0
    letI : Kv.Tbl := ⟨[((He.cT K ("_law_short_right", none)).2, Kv.lamQ "_law_short_right"), ((He.cT K ("law", none)).2, Kv.lamQ "law")]⟩
    obtain ⟨T, bind, ha, t0, t1⟩ := Kv.W.txt_ex KX G c
    have hfa : T.a_law = fa := by
      have e : some (Value.ref T.a_law) = some (Value.ref fa) := T.m_law.symm.trans hmg
      exact Value.ref.inj (Option.some.inj e)
    refine ⟨K, KX, T.fd_law, [He.cT K ("_law_short_right", none), He.cT K ("law", none)], Kv.spK K mg [false] Kv.W.F_law, ?_, ?_, ?_, bind, ?_, ?_⟩
    · intro p hp
      simp only [List.mem_cons, List.not_mem_nil, or_false] at hp
      rcases hp with rfl | rfl
      · exact c.empty ("_law_short_right", none) (List.mem_of_getElem? (i := 0) rfl)
      · exact c.empty ("law", none) (List.mem_of_getElem? (i := 1) rfl)
    · intro p hp
      simp only [List.mem_cons, List.not_mem_nil, or_false] at hp
      rcases hp with rfl | rfl
      · exact c.out ("_law_short_right", none) (List.mem_of_getElem? (i := 0) rfl)
      · exact c.out ("law", none) (List.mem_of_getElem? (i := 1) rfl)
    · intro p hp
      simp only [List.mem_cons, List.not_mem_nil, or_false] at hp
      rcases hp with rfl | rfl
      · exact codeHd_of_K KX (c.hd ("_law_short_right", none) (List.mem_of_getElem? (i := 0) rfl))
      · exact codeHd_of_K KX (c.hd ("law", none) (List.mem_of_getElem? (i := 1) rfl))
    · intro H a ns hl _ ht hS
      refine Kv.spK_law (fun p hp => ?_) hS (Kv.W.plain_law ns hl)
      have hp : p ∈ ([((He.cT K ("_law_short_right", none)).2, Kv.lamQ "_law_short_right"), ((He.cT K ("law", none)).2, Kv.lamQ "law")] : List (Addr × PySem.Str)) := hp
      simp only [List.mem_cons, List.not_mem_nil, or_false] at hp
      rcases hp with rfl | rfl
      · exact LamX.TabS.nil (ht (He.cT K ("_law_short_right", none)) (by simp))
      · exact LamX.TabS.nil (ht (He.cT K ("law", none)) (by simp))
    · intro base KB GB tb
      rw [← hfa]
      have p0 : T.P__law_short_right = (He.cT K ("_law_short_right", none)).2 := congrArg Prod.snd t0
      have tb0 : LamX.TabB base mg T.c__law_short_right T.P__law_short_right := by
        have e := tb (He.cT K ("_law_short_right", none)) (List.mem_of_getElem? (i := 0) rfl)
        rw [← t0] at e
        exact e
      have in0 : (T.P__law_short_right, Kv.lamQ "_law_short_right") ∈ Kv.Tbl.t := by
        rw [p0]
        exact List.mem_of_getElem? (i := 0) rfl
      have un0 : ∀ p ∈ Kv.Tbl.t, p.1 = T.P__law_short_right → p.2 = Kv.lamQ "_law_short_right" := by
        intro p hp hq
        have hp : p ∈ ([((He.cT K ("_law_short_right", none)).2, Kv.lamQ "_law_short_right"), ((He.cT K ("law", none)).2, Kv.lamQ "law")] : List (Addr × PySem.Str)) := hp
        simp only [List.mem_cons, List.not_mem_nil, or_false] at hp
        rcases hp with rfl | rfl
        · rfl
        · exact absurd (hq.trans p0) (Kv.W.dist_0_1 c)
      have p1 : T.P_law = (He.cT K ("law", none)).2 := congrArg Prod.snd t1
      have tb1 : LamX.TabB base mg T.c_law T.P_law := by
        have e := tb (He.cT K ("law", none)) (List.mem_of_getElem? (i := 1) rfl)
        rw [← t1] at e
        exact e
      have in1 : (T.P_law, Kv.lamQ "law") ∈ Kv.Tbl.t := by
        rw [p1]
        exact List.mem_of_getElem? (i := 1) rfl
      have un1 : ∀ p ∈ Kv.Tbl.t, p.1 = T.P_law → p.2 = Kv.lamQ "law" := by
        intro p hp hq
        have hp : p ∈ ([((He.cT K ("_law_short_right", none)).2, Kv.lamQ "_law_short_right"), ((He.cT K ("law", none)).2, Kv.lamQ "law")] : List (Addr × PySem.Str)) := hp
        simp only [List.mem_cons, List.not_mem_nil, or_false] at hp
        rcases hp with rfl | rfl
        · exact absurd (hq.trans p1).symm (Kv.W.dist_0_1 c)
        · rfl
      have ok := Kv.W.ok_law (P := (PySem.Challenge.rw_keptvalues_k46_streams_and_versions).prog) (w := w) T (base := base) ⟨tb0, in0, un0, tb1, in1, un1⟩
      exact ok
