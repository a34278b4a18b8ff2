import PyProof.Rows.All
import HandS.ForMost
import HandS.ForExc
import HandS.Wide
import HandS.Rev
import HandS.RevRange
import HandS.Zip
import HandS.Conv
import HandS.IsInst
import HandS.TupAny
import HandS.SortInts
import KE.GoesMore
import HandS.Iter
import HandS.TryOnly
import PySem.Challenge.RW_nestwright_k28_candidates
set_option Elab.async false
set_option linter.all false
set_option maxRecDepth 100000
set_option maxHeartbeats 4000000
/-! a small functional reading of Python over the hand layer: trees, own lists, the law's flow -/
namespace NW
open PySem PySem.Spec PyProof.Rows L2

inductive U where
  | d (x : PyData) | ref (i : Nat) | flow | scr (ns : List Int)
structure Fl where
  cells : List Int
  place : Int
  held : Int
  seed : Int
  many : Int
inductive Ob where
  | lst (xs : List PyData) | dead
structure Sto where
  fl : Option Fl
  obs : List Ob
structure Exc where
  cls : Str
  fs : List (Str × PyData)
inductive Res (α : Type) where
  | ok (a : α) (s : Sto) | ex (e : Exc) (s : Sto) | no
def Res.bind {α β : Type} (r : Res α) (k : α → Sto → Res β) : Res β := match r with
  | .ok a s => k a s
  | .ex e s => .ex e s
  | .no => .no
abbrev Loc := List (Option U)
abbrev ME := Loc → Sto → Res U
abbrev MB := Loc → Sto → Res Bool
abbrev ML := Loc → Sto → Res (List PyData)
abbrev MA := Loc → Sto → Res (List U)
inductive Out where
  | nx (l : Loc) (s : Sto) | rt (u : U) (s : Sto) | bk (l : Loc) (s : Sto) | ct (l : Loc) (s : Sto) | ex (e : Exc) (l : Loc) (s : Sto) | no
abbrev MS := Loc → Sto → Out

structure Gx where
  K : PySem.W.Frag
  fa : Addr
  fb : Addr
  O0 : Addr → Prop
  cls : Str → Option Addr
  W : Value → Option Addr → L2.St → Hp → Prop

def Own (G : Gx) (β : List Addr) (st : Sto) (p : Addr) : Prop := (st.fl.isSome = true ∧ p = G.fa) ∨ ∃ (i : Nat) (xs : List PyData), st.obs[i]? = some (Ob.lst xs) ∧ β[i]? = some p
def Ban (G : Gx) (β : List Addr) (st : Sto) (p : Addr) : Prop := G.O0 p ∨ Own G β st p

def SqLB (K : PySem.W.Frag) (B : Addr → Prop) (H : Hp) (a : Addr) (xs : List V) : Prop := H a = some (.lst xs) ∧ ¬ B a
def SqTB (K : PySem.W.Frag) (B : Addr → Prop) (H : Hp) (a : Addr) (xs : List V) : Prop :=
  (Rd H a (.tup xs) ∧ ¬ B a) ∨ ∃ (o : Obj) (its : Array Value) (n : Nat), K.lookup a = some o ∧ o.cls = .type "tuple" ∧ o.data = .seq its n ∧ its.size ≤ sizeLine ∧ Vals xs its.toList
def SqSB (K : PySem.W.Frag) (B : Addr → Prop) (H : Hp) (a : Addr) (xs : List V) : Prop :=
  (Rd H a (.lst xs) ∧ ¬ B a) ∨ ∃ (o : Obj) (its : Array Value) (n : Nat), K.lookup a = some o ∧ o.cls = .type "list" ∧ o.dict = none ∧ o.data = .seq its n ∧ its.size ≤ sizeLine ∧ Vals xs its.toList
theorem SqSB.q {K : PySem.W.Frag} {B : Addr → Prop} {H : Hp} {a : Addr} {xs : List V} (h : SqSB K B H a xs) : SqL K H a xs := h.imp (fun x => x.1) id
theorem SqLB.q {K : PySem.W.Frag} {B : Addr → Prop} {H : Hp} {a : Addr} {xs : List V} (h : SqLB K B H a xs) : SqL K H a xs := .inl (.inl h.1)
theorem SqTB.q {K : PySem.W.Frag} {B : Addr → Prop} {H : Hp} {a : Addr} {xs : List V} (h : SqTB K B H a xs) : SqT K H a xs := h.imp (fun x => x.1) id
mutual
inductive RT (K : PySem.W.Frag) (B : Addr → Prop) (H : Hp) : V → PyData → Prop
  | non : RT K B H .non .none
  | bl (b : Bool) : RT K B H (.bl b) (.bool b)
  | int (i : Int) : RT K B H (.int i) (.int i)
  | str (x : Str) : RT K B H (.str x) (.str x)
  | lst {a : Addr} {xs : List V} {ds : List PyData} : SqLB K B H a xs → RTs K B H xs ds → RT K B H (.ref a) (.list ds)
  | tup {a : Addr} {xs : List V} {ds : List PyData} : SqTB K B H a xs → RTs K B H xs ds → RT K B H (.ref a) (.tuple ds)
inductive RTs (K : PySem.W.Frag) (B : Addr → Prop) (H : Hp) : List V → List PyData → Prop
  | nil : RTs K B H [] []
  | cons {v : V} {vs : List V} {d : PyData} {ds : List PyData} : RT K B H v d → RTs K B H vs ds → RTs K B H (v :: vs) (d :: ds)
end

/-- what stands outside B stays, and stays outside -/
def Keep (B : Addr → Prop) (H : Hp) (B' : Addr → Prop) (H' : Hp) : Prop := ∀ b o, H b = some o → ¬ B b → H' b = some o ∧ ¬ B' b
theorem Keep.rd {B B' : Addr → Prop} {H H' : Hp} (k : Keep B H B' H') {a : Addr} {u : HO} (h : Rd H a u ∧ ¬ B a) : Rd H' a u ∧ ¬ B' a := by
  obtain ⟨h | ⟨o, h⟩, n⟩ := h
  · have z := k a _ h n; exact ⟨.inl z.1, z.2⟩
  · have z := k a _ h n; exact ⟨.inr ⟨o, z.1⟩, z.2⟩
section
variable {K : PySem.W.Frag} {B B' : Addr → Prop} {H H' : Hp}
mutual
theorem RT.mono (k : Keep B H B' H') : ∀ (d : PyData) (v : V), RT K B H v d → RT K B' H' v d
  | .none, _, h => by cases h; exact .non
  | .bool b, _, h => by cases h; exact .bl b
  | .int i, _, h => by cases h; exact .int i
  | .str x, _, h => by cases h; exact .str x
  | .list ds, _, h => by
    cases h with
    | lst hs ha => exact .lst (k _ _ hs.1 hs.2) (RTs.mono k ds _ ha)
  | .tuple ds, _, h => by
    cases h with
    | tup hs ha => exact .tup (hs.imp (fun z => k.rd z) id) (RTs.mono k ds _ ha)
  | .dict _, _, h => by cases h
theorem RTs.mono (k : Keep B H B' H') : ∀ (ds : List PyData) (vs : List V), RTs K B H vs ds → RTs K B' H' vs ds
  | [], _, h => by cases h; exact .nil
  | d :: ds, _, h => by
    cases h with
    | cons h1 h2 => exact .cons (RT.mono k d _ h1) (RTs.mono k ds _ h2)
end
mutual
theorem RT.dp : ∀ (d : PyData) (v : V), RT K B H v d → Dp K H v d
  | .none, _, h => by cases h; exact .non
  | .bool b, _, h => by cases h; exact .bl b
  | .int i, _, h => by cases h; exact .int i
  | .str x, _, h => by cases h; exact .str x
  | .list ds, _, h => by
    cases h with
    | lst hs ha => exact .lst hs.q (RTs.dp ds _ ha)
  | .tuple ds, _, h => by
    cases h with
    | tup hs ha => exact .tup hs.q (RTs.dp ds _ ha)
  | .dict _, _, h => by cases h
theorem RTs.dp : ∀ (ds : List PyData) (vs : List V), RTs K B H vs ds → DpAll K H vs ds
  | [], _, h => by cases h; exact .nil
  | d :: ds, _, h => by
    cases h with
    | cons h1 h2 => exact .cons (RT.dp d _ h1) (RTs.dp ds _ h2)
end
theorem RTs.len : ∀ {ds : List PyData} {vs : List V}, RTs K B H vs ds → vs.length = ds.length
  | [], _, h => by cases h; rfl
  | d :: ds, _, h => by
    cases h with
    | cons h1 h2 => rw [List.length_cons, List.length_cons, RTs.len h2]
theorem RTs.get : ∀ {ds : List PyData} {vs : List V} {i : Nat} {d : PyData}, RTs K B H vs ds → ds[i]? = some d → ∃ v, vs[i]? = some v ∧ RT K B H v d
  | [], _, _, _, h, e => by simp at e
  | d :: ds, _, 0, _, h, e => by
    cases h with
    | cons h1 h2 => simp at e; subst e; exact ⟨_, rfl, h1⟩
  | d :: ds, _, i + 1, _, h, e => by
    cases h with
    | cons h1 h2 =>
      obtain ⟨v, a, b⟩ := RTs.get (i := i) h2 (by simpa using e)
      exact ⟨v, by simpa using a, b⟩
theorem RTs.getV : ∀ {ds : List PyData} {vs : List V} {i : Nat} {v : V}, RTs K B H vs ds → vs[i]? = some v → ∃ d, ds[i]? = some d ∧ RT K B H v d
  | [], _, _, _, h, e => by cases h; simp at e
  | d :: ds, _, 0, _, h, e => by
    cases h with
    | cons h1 h2 => simp at e; subst e; exact ⟨_, rfl, h1⟩
  | d :: ds, _, i + 1, _, h, e => by
    cases h with
    | cons h1 h2 =>
      obtain ⟨v, a, b⟩ := RTs.getV (i := i) h2 (by simpa using e)
      exact ⟨v, by simpa using a, b⟩
theorem RTs.append : ∀ {ds es : List PyData} {vs ws : List V}, RTs K B H vs ds → RTs K B H ws es → RTs K B H (vs ++ ws) (ds ++ es)
  | [], _, _, _, h, q => by cases h; exact q
  | d :: ds, _, _, _, h, q => by
    cases h with
    | cons h1 h2 => exact .cons h1 (RTs.append h2 q)
theorem RTs.take : ∀ {ds : List PyData} {vs : List V} (n : Nat), RTs K B H vs ds → RTs K B H (vs.take n) (ds.take n)
  | [], _, n, h => by cases h; simp; exact .nil
  | d :: ds, _, 0, h => by simp; exact .nil
  | d :: ds, _, n + 1, h => by
    cases h with
    | cons h1 h2 => exact .cons h1 (RTs.take n h2)
theorem RTs.drop : ∀ {ds : List PyData} {vs : List V} (n : Nat), RTs K B H vs ds → RTs K B H (vs.drop n) (ds.drop n)
  | [], _, n, h => by cases h; simp; exact .nil
  | d :: ds, _, 0, h => h
  | d :: ds, _, n + 1, h => by
    cases h with
    | cons h1 h2 => exact RTs.drop n h2
theorem RTs.set : ∀ {ds : List PyData} {vs : List V} {v : V} {d : PyData} (n : Nat), RTs K B H vs ds → RT K B H v d → RTs K B H (vs.set n v) (ds.set n d)
  | [], _, _, _, n, h, q => by cases h; exact .nil
  | d :: ds, _, _, _, 0, h, q => by
    cases h with
    | cons h1 h2 => exact .cons q h2
  | d :: ds, _, _, _, n + 1, h, q => by
    cases h with
    | cons h1 h2 => exact .cons h1 (RTs.set n h2 q)
theorem RTs.rev : ∀ {ds : List PyData} {vs : List V}, RTs K B H vs ds → RTs K B H vs.reverse ds.reverse
  | [], _, h => by cases h; exact .nil
  | d :: ds, _, h => by
    cases h with
    | cons h1 h2 => rw [List.reverse_cons, List.reverse_cons]; exact (RTs.rev h2).append (.cons h1 .nil)
theorem RTs.ints : ∀ {ns : List Int} {vs : List V}, RTs K B H vs (ns.map PyData.int) → vs = ns.map V.int
  | [], _, h => by cases h; rfl
  | n :: ns, _, h => by
    cases h with
    | cons h1 h2 => cases h1; rw [RTs.ints h2]; rfl
theorem RTs.bools : ∀ {ns : List Bool} {vs : List V}, RTs K B H vs (ns.map PyData.bool) → vs = ns.map V.bl
  | [], _, h => by cases h; rfl
  | n :: ns, _, h => by
    cases h with
    | cons h1 h2 => cases h1; rw [RTs.bools h2]; rfl
theorem RTs.strs : ∀ {ns : List Str} {vs : List V}, RTs K B H vs (ns.map PyData.str) → vs = ns.map V.str
  | [], _, h => by cases h; rfl
  | n :: ns, _, h => by
    cases h with
    | cons h1 h2 => cases h1; rw [RTs.strs h2]; rfl
theorem RTs.ofInts : ∀ (ns : List Int), RTs K B H (ns.map V.int) (ns.map PyData.int)
  | [] => .nil
  | n :: ns => .cons (.int n) (RTs.ofInts ns)
mutual
theorem RT.weak (k : ∀ a, B' a → B a) : ∀ (d : PyData) (v : V), RT K B H v d → RT K B' H v d
  | .none, _, h => by cases h; exact .non
  | .bool b, _, h => by cases h; exact .bl b
  | .int i, _, h => by cases h; exact .int i
  | .str x, _, h => by cases h; exact .str x
  | .list ds, _, h => by
    cases h with
    | lst hs ha => exact .lst ⟨hs.1, fun w => hs.2 (k _ w)⟩ (RTs.weak k ds _ ha)
  | .tuple ds, _, h => by
    cases h with
    | tup hs ha => exact .tup (hs.imp (fun z => ⟨z.1, fun w => z.2 (k _ w)⟩) id) (RTs.weak k ds _ ha)
  | .dict _, _, h => by cases h
theorem RTs.weak (k : ∀ a, B' a → B a) : ∀ (ds : List PyData) (vs : List V), RTs K B H vs ds → RTs K B' H vs ds
  | [], _, h => by cases h; exact .nil
  | d :: ds, _, h => by
    cases h with
    | cons h1 h2 => exact .cons (RT.weak k d _ h1) (RTs.weak k ds _ h2)
end
end
/-! ### the state's relation -/
def RU (G : Gx) (β : List Addr) (B : Addr → Prop) (H : Hp) (v : V) : U → Prop
  | .d x => RT G.K B H v x
  | .ref i => ∃ p, β[i]? = some p ∧ v = .ref p
  | .flow => v = .ref G.fa
  | .scr ns => ∃ a, v = .ref a ∧ SqSB G.K B H a (ns.map V.int)
def flV (fb : Addr) (f : Fl) : List V := [.ref fb, .int f.place, .int f.held, .int f.seed, .int f.many]
structure FlR (G : Gx) (B : Addr → Prop) (H : Hp) (f : Fl) : Prop where
  here : H G.fa = some (.lst (flV G.fb f))
  cl : SqLB G.K B H G.fb (f.cells.map V.int)
structure Rl (G : Gx) (β : List Addr) (H : Hp) (st : Sto) : Prop where
  len : β.length = st.obs.length
  nodup : β.Nodup
  trk : ∀ p ∈ β, H p ≠ none
  ob : ∀ (i : Nat) (xs : List PyData), st.obs[i]? = some (Ob.lst xs) → ∃ p vs, β[i]? = some p ∧ H p = some (.lst vs) ∧ RTs G.K (Ban G β st) H vs xs
  flo : ∀ f, st.fl = some f → FlR G (Ban G β st) H f ∧ G.fa ∉ β
  o0 : ∀ p, G.O0 p → H p ≠ none ∧ ¬ Own G β st p ∧ ∀ vs, ¬ Rd H p (.tup vs)
structure Fut (G : Gx) (β : List Addr) (st : Sto) (H : Hp) (β' : List Addr) (st' : Sto) (H' : Hp) : Prop where
  ext : ∃ γ, β' = β ++ γ ∧ ∀ p ∈ γ, H p = none
  there : ∀ b, H b ≠ none → H' b ≠ none
  stay : ∀ b o, H b = some o → ¬ Own G β st b → H' b = some o ∧ ¬ Own G β' st' b
section
variable {G : Gx} {β β' β'' : List Addr} {st st' st'' : Sto} {H H' H'' : Hp} {v : V} {u : U}
theorem Fut.refl : Fut G β st H β st H := ⟨⟨[], by simp, by simp⟩, fun _ h => h, fun _ _ h n => ⟨h, n⟩⟩
theorem Fut.trans (a : Fut G β st H β' st' H') (b : Fut G β' st' H' β'' st'' H'') : Fut G β st H β'' st'' H'' := by
  refine ⟨?_, fun p h => b.there p (a.there p h), fun p o h n => b.stay p o (a.stay p o h n).1 (a.stay p o h n).2⟩
  obtain ⟨γ, rfl, h1⟩ := a.ext
  obtain ⟨δ, rfl, h2⟩ := b.ext
  refine ⟨γ ++ δ, by rw [List.append_assoc], fun p hp => ?_⟩
  rcases List.mem_append.mp hp with hp | hp
  · exact h1 p hp
  · cases e : H p with
    | none => rfl
    | some o => exact absurd (h2 p hp) (a.there p (by rw [e]; simp))
theorem Fut.keep (a : Fut G β st H β' st' H') : Keep (Ban G β st) H (Ban G β' st') H' := fun b o h n => by
  have z := a.stay b o h (fun w => n (.inr w))
  exact ⟨z.1, fun w => w.elim (fun w => n (.inl w)) z.2⟩
theorem Fut.rt (a : Fut G β st H β' st' H') {d : PyData} (h : RT G.K (Ban G β st) H v d) : RT G.K (Ban G β' st') H' v d := RT.mono a.keep d v h
theorem Fut.rts (a : Fut G β st H β' st' H') {ds : List PyData} {vs : List V} (h : RTs G.K (Ban G β st) H vs ds) : RTs G.K (Ban G β' st') H' vs ds := RTs.mono a.keep ds vs h
theorem Fut.get (a : Fut G β st H β' st' H') {i : Nat} {p : Addr} (h : β[i]? = some p) : β'[i]? = some p := by
  obtain ⟨γ, rfl, _⟩ := a.ext
  rw [List.getElem?_append_left (List.getElem?_eq_some_iff.mp h).1]; exact h
theorem Fut.ru (a : Fut G β st H β' st' H') (h : RU G β (Ban G β st) H v u) : RU G β' (Ban G β' st') H' v u := by
  cases u with
  | d x => exact a.rt h
  | ref i => obtain ⟨p, h1, h2⟩ := h; exact ⟨p, a.get h1, h2⟩
  | flow => exact h
  | scr ns =>
    obtain ⟨p, h1, h2⟩ := h
    exact ⟨p, h1, h2.imp (fun z => a.keep.rd z) id⟩
end
structure RLoc (G : Gx) (β : List Addr) (B : Addr → Prop) (H : Hp) (σ : L2.St) (l : Loc) : Prop where
  len : σ.length = l.length
  at_ : ∀ (i : Nat) (u : U), l[i]? = some (some u) → ∃ v, σ[i]? = some (some v) ∧ RU G β B H v u
def ExR (G : Gx) (B : Addr → Prop) (H : Hp) (e : Exc) (cv : Value) (dx : Option Addr) : Prop :=
  ∃ C, G.cls e.cls = some C ∧ cv = .ref C ∧ (match e.fs with
    | [] => dx = none
    | fs => ∃ d vs, dx = some d ∧ H d = some (.xd vs) ∧ ¬ B d ∧ vs.map (·.1) = fs.map (·.1) ∧ RTs G.K B H (vs.map (·.2)) (fs.map (·.2)))
section
variable {G : Gx} {β β' : List Addr} {st st' : Sto} {H H' : Hp} {σ : L2.St} {l : Loc}
theorem Fut.rloc (a : Fut G β st H β' st' H') (h : RLoc G β (Ban G β st) H σ l) : RLoc G β' (Ban G β' st') H' σ l := ⟨h.len, fun i u e => by
  obtain ⟨v, h1, h2⟩ := h.at_ i u e
  exact ⟨v, h1, a.ru h2⟩⟩
end
/-- the whole state -/
structure Re (G : Gx) (β : List Addr) (H : Hp) (σ : L2.St) (l : Loc) (st : Sto) : Prop where
  rl : Rl G β H st
  lo : RLoc G β (Ban G β st) H σ l
theorem Fut.re {G : Gx} {β β' : List Addr} {st st' : Sto} {H H' : Hp} {σ : L2.St} {l : Loc} (a : Fut G β st H β' st' H') (r : Rl G β' H' st') (h : Re G β H σ l st) : Re G β' H' σ l st' := ⟨r, a.rloc h.lo⟩

/-! ### what a reading does, by a function -/
/-- the end of an evaluation: P says how the value is told -/
def wpR {α γ : Type} (G : Gx) (β : List Addr) (H : Hp) (σ : L2.St) (st : Sto) (P : List Addr → Sto → Hp → γ → α → Prop) (r : Res α) (Q : γ → Hp → Prop) : Prop := match r with
  | .ok a st' => ∀ v H' β', Fut G β st H β' st' H' → Rl G β' H' st' → P β' st' H' v a → Q v H'
  | .ex e st' => ∀ cv dx H' β', Fut G β st H β' st' H' → Rl G β' H' st' → ExR G (Ban G β' st') H' e cv dx → G.W cv dx σ H'
  | .no => False
def PU (G : Gx) : List Addr → Sto → Hp → V → U → Prop := fun β st H v u => RU G β (Ban G β st) H v u
def PUs (G : Gx) : List Addr → Sto → Hp → List V → List U → Prop := fun β st H vs us => Paired (fun v u => RU G β (Ban G β st) H v u) vs us
def PB : List Addr → Sto → Hp → Bool → Bool → Prop := fun _ _ _ a b => a = b
def SimE (G : Gx) (t : TE) (m : ME) : Prop := ∀ β H σ l st, Re G β H σ l st → ∀ Q, wpR G β H σ st (PU G) (m l st) Q → t σ H Q
def SimA (G : Gx) (t : TA) (m : MA) : Prop := ∀ β H σ l st, Re G β H σ l st → ∀ Q, wpR G β H σ st (PUs G) (m l st) Q → t σ H Q
def SimT (G : Gx) (t : TT) (m : MB) : Prop := ∀ β H σ l st, Re G β H σ l st → ∀ Q, wpR G β H σ st PB (m l st) Q → t σ H Q
section
variable {G : Gx}
theorem wpR_bind {α δ γ ε : Type} {β : List Addr} {H : Hp} {σ : L2.St} {st : Sto} {P : List Addr → Sto → Hp → γ → α → Prop} {P' : List Addr → Sto → Hp → ε → δ → Prop} {r : Res α} {k : α → Sto → Res δ} {Q : ε → Hp → Prop}
    (h : wpR G β H σ st P' (r.bind k) Q) {R : γ → Hp → Prop} (hk : ∀ v a H' β' st', Fut G β st H β' st' H' → Rl G β' H' st' → P β' st' H' v a → wpR G β' H' σ st' P' (k a st') Q → R v H') : wpR G β H σ st P r R := by
  cases r with
  | ok a st' =>
    intro v H' β' f rl p
    refine hk v a H' β' st' f rl p ?_
    have h' : wpR G β H σ st P' (k a st') Q := h
    cases e : k a st' with
    | ok b st'' => rw [e] at h'; exact fun v' H'' β'' f' rl' p' => h' v' H'' β'' (f.trans f') rl' p'
    | ex x st'' => rw [e] at h'; exact fun cv dx H'' β'' f' rl' p' => h' cv dx H'' β'' (f.trans f') rl' p'
    | no => rw [e] at h'; exact h'
  | ex e st' => exact h
  | no => exact h
theorem wpR_ok {α γ : Type} {β : List Addr} {H : Hp} {σ : L2.St} {st : Sto} {P : List Addr → Sto → Hp → γ → α → Prop} {a : α} {Q : γ → Hp → Prop} {v : γ} (rl : Rl G β H st) (p : P β st H v a) (h : wpR G β H σ st P (.ok a st) Q) : Q v H :=
  h v H β Fut.refl rl p

theorem wpR_d {β : List Addr} {H : Hp} {σ : L2.St} {st : Sto} {v : V} {x : PyData} {Q : VK} (rl : Rl G β H st) (p : RT G.K (Ban G β st) H v x) (h : wpR G β H σ st (PU G) (.ok (.d x) st) Q) : Q v H := h v H β Fut.refl rl p
theorem wpR_u {β : List Addr} {H : Hp} {σ : L2.St} {st : Sto} {v : V} {u : U} {Q : VK} (rl : Rl G β H st) (p : RU G β (Ban G β st) H v u) (h : wpR G β H σ st (PU G) (.ok u st) Q) : Q v H := h v H β Fut.refl rl p

/-! expressions -/
def eVar (i : Nat) : ME := fun l st => match l[i]? with
  | some (some u) => .ok u st
  | _ => .no
theorem s_var (i : Nat) : SimE G (tVar i) (eVar i) := fun β H σ l st re Q h => by
  unfold eVar at h
  split at h
  · rename_i u e
    obtain ⟨v, h1, h2⟩ := re.lo.at_ i u e
    exact ⟨v, h1, wpR_ok re.rl h2 h⟩
  · exact h.elim
def eC (x : PyData) : ME := fun _ st => .ok (.d x) st
theorem s_c {v : V} {x : PyData} (hx : ∀ B H, RT G.K B H v x) : SimE G (tC v) (eC x) := fun β H σ l st re Q h => wpR_d re.rl (hx _ _) h
theorem s_int (i : Int) : SimE G (tC (.int i)) (eC (.int i)) := s_c fun _ _ => .int i
theorem s_bl (b : Bool) : SimE G (tC (.bl b)) (eC (.bool b)) := s_c fun _ _ => .bl b
theorem s_non : SimE G (tC .non) (eC .none) := s_c fun _ _ => .non
theorem s_str (z : Str) : SimE G (tC (.str z)) (eC (.str z)) := s_c fun _ _ => .str z
/-- a two-place operation on values, by a function -/
def SimR (G : Gx) (r : R2) (f : U → U → Sto → Res U) : Prop := ∀ β H σ l st, Re G β H σ l st → ∀ x y a b Q, RU G β (Ban G β st) H x a → RU G β (Ban G β st) H y b → wpR G β H σ st (PU G) (f a b st) Q → r x y H Q
def eOp (f : U → U → Sto → Res U) (a b : ME) : ME := fun l st => (a l st).bind fun x st => (b l st).bind fun y st => f x y st
theorem s_op {r : R2} {f : U → U → Sto → Res U} {ta tb : TE} {a b : ME} (hr : SimR G r f) (ha : SimE G ta a) (hb : SimE G tb b) : SimE G (tOp r ta tb) (eOp f a b) := fun β H σ l st re Q h => by
  refine ha β H σ l st re _ (wpR_bind h fun v x H1 β1 st1 f1 rl1 p1 h1 => ?_)
  have re1 := f1.re rl1 re
  refine hb β1 H1 σ l st1 re1 _ (wpR_bind h1 fun w y H2 β2 st2 f2 rl2 p2 h2 => ?_)
  exact hr β2 H2 σ l st2 (f2.re rl2 re1) v w x y Q (f2.ru p1) p2 h2
def oI (C : Int → Int → Bool) (g : Int → Int → PyData) : U → U → Sto → Res U := fun a b st => match a, b with
  | .d (.int i), .d (.int j) => if C i j then .ok (.d (g i j)) st else .no
  | _, _ => .no
def oI0 (g : Int → Int → PyData) : U → U → Sto → Res U := fun a b st => match a, b with
  | .d (.int i), .d (.int j) => .ok (.d (g i j)) st
  | _, _ => .no
theorem ru_int {β : List Addr} {B : Addr → Prop} {H : Hp} {v : V} {i : Int} (h : RU G β B H v (.d (.int i))) : v = .int i := by cases h; rfl
theorem ru_bool {β : List Addr} {B : Addr → Prop} {H : Hp} {v : V} {i : Bool} (h : RU G β B H v (.d (.bool i))) : v = .bl i := by cases h; rfl
theorem ru_str {β : List Addr} {B : Addr → Prop} {H : Hp} {v : V} {i : Str} (h : RU G β B H v (.d (.str i))) : v = .str i := by cases h; rfl
theorem r_I {C : Int → Int → Prop} {c : Int → Int → Bool} {g : Int → Int → V} {g' : Int → Int → PyData} (hc : ∀ i j, c i j = true → C i j) (hg : ∀ i j B H, RT G.K B H (g i j) (g' i j)) : SimR G (rI C g) (oI c g') := fun β H σ l st re x y a b Q hx hy h => by
  unfold oI at h
  split at h
  · rename_i i j
    cases ru_int hx; cases ru_int hy
    split at h
    · rename_i q
      exact ⟨i, j, rfl, rfl, hc i j q, wpR_d re.rl (hg i j _ _) h⟩
    · exact h.elim
  · exact h.elim
theorem r_I0 {g : Int → Int → V} {g' : Int → Int → PyData} (hg : ∀ i j B H, RT G.K B H (g i j) (g' i j)) : SimR G (rI0 g) (oI0 g') := fun β H σ l st re x y a b Q hx hy h => by
  unfold oI0 at h
  split at h
  · rename_i i j
    cases ru_int hx; cases ru_int hy
    exact ⟨i, j, rfl, rfl, wpR_d re.rl (hg i j _ _) h⟩
  · exact h.elim
end
end NW

namespace NW
open PySem PySem.Spec PyProof.Rows L2
section
variable {G : Gx} {β β' : List Addr} {st st' : Sto} {H H' : Hp} {v : V} {u : U} {σ : L2.St} {l : Loc}
theorem Rl.notBan (rl : Rl G β H st) {p : Addr} (hp : H p = none) : ¬ Ban G β st p := by
  rintro (h | ⟨hf, rfl⟩ | ⟨i, xs, h1, h2⟩)
  · exact (rl.o0 p h).1 hp
  · obtain ⟨f, hf⟩ := Option.isSome_iff_exists.mp hf
    obtain ⟨⟨a, _⟩, _⟩ := rl.flo f hf
    rw [hp] at a; cases a
  · obtain ⟨q, vs, a, b, _⟩ := rl.ob i xs h1
    rw [h2] at a; cases a; rw [hp] at b; cases b
theorem Fut.new {p : Addr} {o : HO} (hp : H p = none) : Fut G β st H β st (upd H p o) :=
  ⟨⟨[], by simp, by simp⟩, fun b h => by
    by_cases e : b = p
    · subst e; rw [upd_same]; simp
    · rw [upd_ne e]; exact h, fun b o' h n => ⟨by rw [upd_ne (ne_of_none h hp)]; exact h, n⟩⟩
theorem SqLB.fut (a : Fut G β st H β' st' H') {K : PySem.W.Frag} {p : Addr} {xs : List V} (h : SqLB K (Ban G β st) H p xs) : SqLB K (Ban G β' st') H' p xs := a.keep p _ h.1 h.2
theorem Rl.o0_fut (rl : Rl G β H st) (f : Fut G β st H β' st' H') (q : Addr) (hq : G.O0 q) (n : ¬ Own G β' st' q) : H' q ≠ none ∧ ¬ Own G β' st' q ∧ ∀ vs, ¬ Rd H' q (.tup vs) := by
  obtain ⟨a, b, c⟩ := rl.o0 q hq
  refine ⟨f.there q a, n, fun vs h => ?_⟩
  cases e : H q with
  | none => exact a e
  | some o =>
    have z := (f.stay q o e b).1
    refine c vs ?_
    unfold Rd at h ⊢
    rw [z] at h; rw [e]; exact h
theorem Rl.banNoTup (rl : Rl G β H st) {p : Addr} (h : Ban G β st p) (vs : List V) : ¬ Rd H p (.tup vs) := by
  rcases h with h | ⟨hf, rfl⟩ | ⟨i, xs, h1, h2⟩
  · exact (rl.o0 p h).2.2 vs
  · obtain ⟨f, hf⟩ := Option.isSome_iff_exists.mp hf
    obtain ⟨⟨a, _⟩, _⟩ := rl.flo f hf
    rintro (z | ⟨o, z⟩) <;> (rw [a] at z; cases z)
  · obtain ⟨q, ws, a, b, _⟩ := rl.ob i xs h1
    rw [h2] at a; cases a
    rintro (z | ⟨o, z⟩) <;> (rw [b] at z; cases z)
theorem Rl.new (rl : Rl G β H st) {p : Addr} {o : HO} (hp : H p = none) : Rl G β (upd H p o) st := by
  have f : Fut G β st H β st (upd H p o) := Fut.new hp
  refine ⟨rl.len, rl.nodup, fun q hq => f.there q (rl.trk q hq), fun i xs h => ?_, fun g hg => ?_, fun q hq => rl.o0_fut f q hq (rl.o0 q hq).2.1⟩
  · obtain ⟨q, vs, a, b, c⟩ := rl.ob i xs h
    exact ⟨q, vs, a, by rw [upd_ne (ne_of_none b hp)]; exact b, f.rts c⟩
  · obtain ⟨⟨a, b⟩, c⟩ := rl.flo g hg
    exact ⟨⟨by rw [upd_ne (ne_of_none a hp)]; exact a, b.fut f⟩, c⟩
/-- a new object becomes an own list -/
def Sto.add (st : Sto) (xs : List PyData) : Sto := { st with obs := st.obs ++ [.lst xs] }
theorem Own.add {p q : Addr} {xs : List PyData} (hl : β.length = st.obs.length) : Own G (β ++ [p]) (st.add xs) q ↔ Own G β st q ∨ q = p := by
  unfold Own Sto.add
  constructor
  · rintro (h | ⟨i, ys, h1, h2⟩)
    · exact .inl (.inl h)
    · by_cases hi : i < st.obs.length
      · rw [List.getElem?_append_left hi] at h1
        rw [List.getElem?_append_left (by omega)] at h2
        exact .inl (.inr ⟨i, ys, h1, h2⟩)
      · have e : i = st.obs.length := by
          have := (List.getElem?_eq_some_iff.mp h1).1
          simp at this; omega
        subst e
        rw [← hl, List.getElem?_append_right (Nat.le_refl _)] at h2
        simp at h2; exact .inr h2.symm
  · rintro ((h | ⟨i, ys, h1, h2⟩) | h)
    · exact .inl h
    · exact .inr ⟨i, ys, by rw [List.getElem?_append_left (List.getElem?_eq_some_iff.mp h1).1]; exact h1, by rw [List.getElem?_append_left (List.getElem?_eq_some_iff.mp h2).1]; exact h2⟩
    · subst h
      exact .inr ⟨st.obs.length, xs, by simp, by rw [← hl]; simp⟩
theorem add_own (rl : Rl G β H st) {p : Addr} {vs : List V} {xs : List PyData} (hp : H p = none) (r : RTs G.K (Ban G β st) H vs xs) :
    Fut G β st H (β ++ [p]) (st.add xs) (upd H p (.lst vs)) ∧ Rl G (β ++ [p]) (upd H p (.lst vs)) (st.add xs) := by
  have fO : Fut G β st H (β ++ [p]) (st.add xs) (upd H p (.lst vs)) := by
    refine ⟨⟨[p], rfl, by simp [hp]⟩, (Fut.new (G := G) (β := β) (st := st) (o := .lst vs) hp).there, fun b o' h n => ⟨by rw [upd_ne (ne_of_none h hp)]; exact h, fun w => ?_⟩⟩
    rcases (Own.add rl.len).mp w with w | w
    · exact n w
    · subst w; rw [hp] at h; cases h
  refine ⟨fO, by simp [Sto.add, rl.len], ?_, fun q hq => ?_, fun i ys h => ?_, fun g hg => ?_, fun q hq => rl.o0_fut fO q hq fun w => ?_⟩
  · rw [List.nodup_append]
    refine ⟨rl.nodup, by simp, fun a ha b hb e => ?_⟩
    have hb' : b = p := by simpa using hb
    subst e hb'
    exact rl.trk _ ha hp
  · rcases List.mem_append.mp hq with w | w
    · exact fO.there q (rl.trk q w)
    · have w' : q = p := by simpa using w
      rw [w', upd_same]; simp
  · unfold Sto.add at h
    by_cases hi : i < st.obs.length
    · rw [List.getElem?_append_left hi] at h
      obtain ⟨q, ws, a, b, c⟩ := rl.ob i ys h
      exact ⟨q, ws, by rw [List.getElem?_append_left (List.getElem?_eq_some_iff.mp a).1]; exact a, by rw [upd_ne (ne_of_none b hp)]; exact b, fO.rts c⟩
    · have e : i = st.obs.length := by
        have := (List.getElem?_eq_some_iff.mp h).1
        simp at this; omega
      subst e
      simp at h; subst h
      exact ⟨p, vs, by rw [← rl.len]; simp, upd_same, fO.rts r⟩
  · obtain ⟨⟨a, b⟩, c⟩ := rl.flo g hg
    refine ⟨⟨by rw [upd_ne (ne_of_none a hp)]; exact a, b.fut fO⟩, fun w => ?_⟩
    rcases List.mem_append.mp w with w | w
    · exact c w
    · have w' : G.fa = p := by simpa using w
      rw [w', hp] at a; cases a
  · rcases (Own.add rl.len).mp w with w | w
    · exact (rl.o0 q hq).2.1 w
    · subst w; exact (rl.o0 _ hq).1 hp
theorem ix_inj {β : List Addr} (n : β.Nodup) {i j : Nat} {p : Addr} (h : β[i]? = some p) (h' : β[j]? = some p) : i = j := by
  obtain ⟨h1, e1⟩ := List.getElem?_eq_some_iff.mp h
  obtain ⟨h2, e2⟩ := List.getElem?_eq_some_iff.mp h'
  exact (List.getElem_inj n).mp (e1.trans e2.symm)
/-- an own list is written -/
def Sto.put (st : Sto) (i : Nat) (xs : List PyData) : Sto := { st with obs := st.obs.set i (.lst xs) }
theorem Own.put {i : Nat} {xs ys : List PyData} {q : Addr} (h : st.obs[i]? = some (.lst xs)) : Own G β (st.put i ys) q ↔ Own G β st q := by
  unfold Own Sto.put
  have hi := (List.getElem?_eq_some_iff.mp h).1
  constructor
  · rintro (h' | ⟨j, zs, h1, h2⟩)
    · exact .inl h'
    · by_cases e : j = i
      · subst e; exact .inr ⟨j, xs, h, h2⟩
      · exact .inr ⟨j, zs, by simpa [List.getElem?_set_ne (Ne.symm e)] using h1, h2⟩
  · rintro (h' | ⟨j, zs, h1, h2⟩)
    · exact .inl h'
    · by_cases e : j = i
      · subst e; exact .inr ⟨j, ys, by simp [hi], h2⟩
      · exact .inr ⟨j, zs, by simpa [List.getElem?_set_ne (Ne.symm e)] using h1, h2⟩
theorem put_own (rl : Rl G β H st) {i : Nat} {p : Addr} {xs ys : List PyData} {vs : List V} (h : st.obs[i]? = some (.lst xs)) (hp : β[i]? = some p) (r : RTs G.K (Ban G β st) H vs ys) :
    Fut G β st H β (st.put i ys) (upd H p (.lst vs)) ∧ Rl G β (upd H p (.lst vs)) (st.put i ys) := by
  have op : Own G β st p := .inr ⟨i, xs, h, hp⟩
  have hi := (List.getElem?_eq_some_iff.mp h).1
  have fO : Fut G β st H β (st.put i ys) (upd H p (.lst vs)) := by
    refine ⟨⟨[], by simp, by simp⟩, fun b hb => ?_, fun b o' h' n => ?_⟩
    · by_cases e : b = p
      · rw [e, upd_same]; simp
      · rw [upd_ne e]; exact hb
    · have e : b ≠ p := fun e => n (e ▸ op)
      exact ⟨by rw [upd_ne e]; exact h', fun w => n ((Own.put h).mp w)⟩
  refine ⟨fO, by simp [Sto.put, rl.len], rl.nodup, fun q hq => fO.there q (rl.trk q hq), fun j zs h' => ?_, fun g hg => ?_, fun q hq => rl.o0_fut fO q hq fun w => (rl.o0 q hq).2.1 ((Own.put h).mp w)⟩
  · by_cases e : j = i
    · subst e
      simp [Sto.put, hi] at h'; subst h'
      exact ⟨p, vs, hp, upd_same, fO.rts r⟩
    · obtain ⟨q, ws, a, b, c⟩ := rl.ob j zs (by simpa [Sto.put, List.getElem?_set_ne (Ne.symm e)] using h')
      have ne : q ≠ p := fun z => e (ix_inj rl.nodup a (z ▸ hp))
      exact ⟨q, ws, a, by rw [upd_ne ne]; exact b, fO.rts c⟩
  · obtain ⟨⟨a, b⟩, c⟩ := rl.flo g hg
    have ne : G.fa ≠ p := fun z => c (z ▸ List.mem_of_getElem? hp)
    exact ⟨⟨by rw [upd_ne ne]; exact a, b.fut fO⟩, c⟩
theorem own_fl {f f' : Fl} (h : st.fl = some f) (p : Addr) : Own G β { st with fl := some f' } p ↔ Own G β st p := by
  unfold Own
  rw [h]
  exact Iff.rfl
theorem flow_end (rl : Rl G β H st) {f f' : Fl} (hf : st.fl = some f) (k : ∀ b o, H b = some o → b ≠ G.fa → H' b = some o) (h1 : H' G.fa = some (.lst (flV G.fb f'))) (hc : f'.cells = f.cells) :
    Fut G β st H β { st with fl := some f' } H' ∧ Rl G β H' { st with fl := some f' } := by
  obtain ⟨⟨a, b⟩, c⟩ := rl.flo f hf
  have ofa : Own G β st G.fa := .inl ⟨by rw [hf]; rfl, rfl⟩
  have hne : G.fb ≠ G.fa := fun e => b.2 (.inr (e ▸ ofa))
  have fu : Fut G β st H β { st with fl := some f' } H' := by
    refine ⟨⟨[], by simp, by simp⟩, fun b hb => ?_, fun b o h n => ⟨k b o h fun e => n (e ▸ ofa), fun w => n ((own_fl hf b).mp w)⟩⟩
    by_cases e : b = G.fa
    · rw [e, h1]; simp
    · cases e2 : H b with
      | none => exact absurd e2 hb
      | some o => rw [k b o e2 e]; simp
  refine ⟨fu, rl.len, rl.nodup, fun q hq => fu.there q (rl.trk q hq), fun i xs h => ?_, fun g hg => ?_, fun q hq => rl.o0_fut fu q hq fun w => (rl.o0 q hq).2.1 ((own_fl hf q).mp w)⟩
  · obtain ⟨q, vs, a', b', c'⟩ := rl.ob i xs h
    exact ⟨q, vs, a', k _ _ b' (fun e => c (e ▸ List.mem_of_getElem? a')), fu.rts c'⟩
  · cases hg
    refine ⟨⟨h1, ?_⟩, c⟩
    rw [hc]
    exact b.fut fu
/-! ### values by kind -/
def listOf (st : Sto) : U → Option (List PyData)
  | .d (.list xs) => some xs
  | .ref i => match st.obs[i]? with | some (.lst xs) => some xs | _ => none
  | _ => none
def tupOf : U → Option (List PyData)
  | .d (.tuple xs) => some xs
  | _ => none
def toTree (st : Sto) (u : U) : Option PyData := match u with
  | .d x => some x
  | .ref i => match st.obs[i]? with | some (.lst xs) => some (.list xs) | _ => none
  | .flow => none
  | .scr _ => none
theorem list_q (rl : Rl G β H st) (h : RU G β (Ban G β st) H v u) {xs : List PyData} (e : listOf st u = some xs) : ∃ p vs, v = .ref p ∧ SqL G.K H p vs ∧ RTs G.K (Ban G β st) H vs xs := by
  unfold listOf at e
  split at e
  · cases e
    cases h with
    | lst a b => exact ⟨_, _, rfl, a.q, b⟩
  · rename_i i
    split at e
    · rename_i hy
      cases e
      obtain ⟨p, h1, rfl⟩ := h
      obtain ⟨q, vs, a, b, c⟩ := rl.ob i _ hy
      rw [h1] at a; cases a
      exact ⟨p, vs, rfl, SqL.of b, c⟩
    · cases e
  · cases e
theorem tup_q (h : RU G β (Ban G β st) H v u) {xs : List PyData} (e : tupOf u = some xs) : ∃ p vs, v = .ref p ∧ SqT G.K H p vs ∧ RTs G.K (Ban G β st) H vs xs := by
  unfold tupOf at e
  split at e
  · cases e
    cases h with
    | tup a b => exact ⟨_, _, rfl, a.q, b⟩
  · cases e
theorem tree_dp (rl : Rl G β H st) (h : RU G β (Ban G β st) H v u) {x : PyData} (e : toTree st u = some x) : Dp G.K H v x := by
  cases u with
  | d y => cases e; exact RT.dp _ _ h
  | flow => cases e
  | scr ns => cases e
  | ref i =>
    simp only [toTree] at e
    split at e
    · rename_i ys hy
      cases e
      obtain ⟨p, h1, rfl⟩ := h
      obtain ⟨q, vs, a, b, c⟩ := rl.ob i ys hy
      rw [h1] at a; cases a
      exact .lst (SqL.of b) (RTs.dp _ _ c)
    · cases e
/-! ### == and != -/
def opEq (neg : Bool) : U → U → Sto → Res U := fun a b st => match toTree st a, toTree st b with
  | some x, some y => if (SeqAt.shaped x && SeqAt.shaped y) = true then .ok (.d (.bool (if neg then !PyData.eqv x y else PyData.eqv x y))) st else .no
  | _, _ => .no
theorem r_eq : SimR G (rEqD G.K) (opEq false) := fun β H σ l st re x y a b Q hx hy h => by
  unfold opEq at h
  split at h
  · rename_i d e h1 h2
    split at h
    · rename_i q
      rw [Bool.and_eq_true] at q
      exact ⟨d, e, tree_dp re.rl hx h1, tree_dp re.rl hy h2, q.1, q.2, wpR_d re.rl (.bl _) h⟩
    · exact h.elim
  · exact h.elim
theorem r_ne : SimR G (rNeD G.K) (opEq true) := fun β H σ l st re x y a b Q hx hy h => by
  unfold opEq at h
  split at h
  · rename_i d e h1 h2
    split at h
    · rename_i q
      rw [Bool.and_eq_true] at q
      exact ⟨d, e, tree_dp re.rl hx h1, tree_dp re.rl hy h2, q.1, q.2, wpR_d re.rl (.bl _) h⟩
    · exact h.elim
  · exact h.elim
/-! ### ints -/
def fAdd : U → U → Sto → Res U := oI0 fun i j => .int (i + j)
def fSub : U → U → Sto → Res U := oI0 fun i j => .int (i - j)
def mulC (i j : Int) : Bool := decide (i.natAbs.log2 + j.natAbs.log2 < 1000000)
def fMul : U → U → Sto → Res U := oI mulC fun i j => .int (i * j)
def fMod : U → U → Sto → Res U := oI (fun _ j => decide (j ≠ 0)) fun i j => .int (i.fmod j)
def divC (_ j : Int) : Bool := decide (j ≠ 0 ∧ j.natAbs.log2 < 9000)
def fDiv : U → U → Sto → Res U := oI divC fun i j => .int (i.fdiv j)
def fPow : U → U → Sto → Res U := oI (fun i j => decide (0 ≤ j ∧ j ≤ 1000000 ∧ i.natAbs < 2 ^ 64)) fun i j => .int (i ^ j.toNat)
def fLt : U → U → Sto → Res U := oI0 fun i j => .bool (decide (i < j))
def fLe : U → U → Sto → Res U := oI0 fun i j => .bool (decide (i ≤ j))
def fGt : U → U → Sto → Res U := oI0 fun i j => .bool (decide (j < i))
def fGe : U → U → Sto → Res U := oI0 fun i j => .bool (decide (j ≤ i))
theorem r_add : SimR G (rI0 fun i j => .int (i + j)) fAdd := r_I0 fun _ _ _ _ => .int _
theorem r_sub : SimR G (rI0 fun i j => .int (i - j)) fSub := r_I0 fun _ _ _ _ => .int _
theorem r_mul : SimR G (rI CMulW fun i j => .int (i * j)) fMul := r_I (fun _ _ h => by have q := of_decide_eq_true h; exact q) fun _ _ _ _ => .int _
theorem r_mod : SimR G (rI (fun _ j => j ≠ 0) fun i j => .int (i.fmod j)) fMod := r_I (fun _ _ h => by have q := of_decide_eq_true h; exact q) fun _ _ _ _ => .int _
def CDivA (_ j : Int) : Prop := j ≠ 0 ∧ j.natAbs.log2 < 9000
theorem op_fdivA {X : Cx} : OpR X (binaryOp .FloorDiv) (rI CDivA fun i j => .int (i.fdiv j)) := L2.opI fun _ _ _ _ _ _ _ hc q => floordiv_int hc.1 q (.inl (PyProof.noPylong_of_log2 hc.2))
theorem r_div : SimR G (rI CDivA fun i j => .int (i.fdiv j)) fDiv := r_I (fun _ _ h => by have q := of_decide_eq_true h; exact q) fun _ _ _ _ => .int _
theorem r_pow : SimR G (rI CPow fun i j => .int (i ^ j.toNat)) fPow := r_I (fun _ _ h => by have q := of_decide_eq_true h; exact q) fun _ _ _ _ => .int _
theorem r_lt : SimR G (rI0 fun i j => .bl (decide (i < j))) fLt := r_I0 fun _ _ _ _ => .bl _
theorem r_le : SimR G (rI0 fun i j => .bl (decide (i ≤ j))) fLe := r_I0 fun _ _ _ _ => .bl _
theorem r_gt : SimR G (rI0 fun i j => .bl (decide (j < i))) fGt := r_I0 fun _ _ _ _ => .bl _
theorem r_ge : SimR G (rI0 fun i j => .bl (decide (j ≤ i))) fGe := r_I0 fun _ _ _ _ => .bl _
/-! ### is None -/
def isNon : U → Bool
  | .d .none => true
  | _ => false
theorem isNon_v (h : RU G β (Ban G β st) H v u) : decide (v = .non) = isNon u := by
  cases u with
  | d x => cases h <;> rfl
  | ref i => obtain ⟨p, _, rfl⟩ := h; rfl
  | flow => have e : v = .ref G.fa := h; subst e; rfl
  | scr ns => obtain ⟨a, rfl, _⟩ := h; rfl
def fIsN (neg : Bool) : U → U → Sto → Res U := fun a b st => match b with
  | .d .none => .ok (.d (.bool (if neg then !isNon a else isNon a))) st
  | _ => .no
theorem r_isN : SimR G (fun x y H Q => y = .non ∧ Q (.bl (decide (x = .non))) H) (fIsN false) := fun β H σ l st re x y a b Q hx hy h => by
  unfold fIsN at h
  split at h
  · cases hy
    exact ⟨rfl, by rw [isNon_v hx]; exact wpR_d re.rl (.bl _) h⟩
  · exact h.elim
theorem r_notN : SimR G (fun x y H Q => y = .non ∧ Q (.bl (!decide (x = .non))) H) (fIsN true) := fun β H σ l st re x y a b Q hx hy h => by
  unfold fIsN at h
  split at h
  · cases hy
    exact ⟨rfl, by rw [isNon_v hx]; exact wpR_d re.rl (.bl _) h⟩
  · exact h.elim
/-! ### in, of flat things -/
def flatD : PyData → Bool
  | .none | .bool _ | .int _ | .str _ => true
  | _ => false
theorem flatD_v {B : Addr → Prop} {K : PySem.W.Frag} {x : PyData} (h : RT K B H v x) (f : flatD x = true) : flatV v = true := by
  cases h <;> first | rfl | cases f
theorem flatD_all {B : Addr → Prop} {K : PySem.W.Frag} : ∀ {xs : List PyData} {vs : List V}, RTs K B H vs xs → xs.all flatD = true → vs.all flatV = true
  | [], _, h, _ => by cases h; rfl
  | x :: xs, _, h, f => by
    cases h with
    | cons h1 h2 =>
      simp only [List.all_cons, Bool.and_eq_true] at f ⊢
      exact ⟨flatD_v h1 f.1, flatD_all h2 f.2⟩
theorem eqV_v {B : Addr → Prop} {K : PySem.W.Frag} {x y : PyData} {v w : V} (h : RT K B H v x) (h' : RT K B H w y) (f : flatD x = true) (g : flatD y = true) : eqV v w = PyData.eqv x y := by
  cases h <;> first | (cases f; done) | (cases h' <;> first | (cases g; done) | (simp [eqV, PyData.eqv]))
theorem inV_v {B : Addr → Prop} {K : PySem.W.Frag} {x : PyData} {v : V} (h : RT K B H v x) (f : flatD x = true) : ∀ {xs : List PyData} {vs : List V}, RTs K B H vs xs → xs.all flatD = true → inV v vs = xs.any fun y => PyData.eqv y x
  | [], _, h', _ => by cases h'; rfl
  | y :: xs, _, h', g => by
    cases h' with
    | cons h1 h2 =>
      simp only [List.all_cons, Bool.and_eq_true] at g
      have ih := inV_v h f h2 g.2
      unfold inV at ih ⊢
      rw [List.any_cons, List.any_cons, ih, eqV_v h1 h g.1 f]
def seqOf (st : Sto) (u : U) : Option (List PyData) := (listOf st u).orElse fun _ => tupOf u
theorem seq_q (rl : Rl G β H st) (h : RU G β (Ban G β st) H v u) {xs : List PyData} (e : seqOf st u = some xs) : ∃ p vs, v = .ref p ∧ (SqL G.K H p vs ∨ SqT G.K H p vs) ∧ RTs G.K (Ban G β st) H vs xs := by
  unfold seqOf at e
  cases q : listOf st u with
  | some ys =>
    rw [q] at e; cases e
    obtain ⟨p, vs, a, b, c⟩ := list_q rl h q
    exact ⟨p, vs, a, .inl b, c⟩
  | none =>
    rw [q] at e
    obtain ⟨p, vs, a, b, c⟩ := tup_q h (show tupOf u = some xs from e)
    exact ⟨p, vs, a, .inr b, c⟩
def fIn (neg : Bool) : U → U → Sto → Res U := fun a b st => match a, seqOf st b with
  | .d x, some xs => if (flatD x && xs.all flatD) = true then .ok (.d (.bool (if neg then !(xs.any fun y => PyData.eqv y x) else xs.any fun y => PyData.eqv y x))) st else .no
  | _, _ => .no
theorem r_in (neg : Bool) : SimR G (rIn G.K neg) (fIn neg) := fun β H σ l st re x y a b Q hx hy h => by
  unfold fIn at h
  split at h
  · rename_i z xs e
    split at h
    · rename_i q
      rw [Bool.and_eq_true] at q
      obtain ⟨p, vs, rfl, s, r⟩ := seq_q re.rl hy e
      exact ⟨p, vs, rfl, s, flatD_v hx q.1, flatD_all r q.2, by rw [inV_v hx q.1 r q.2]; exact wpR_d re.rl (.bl _) h⟩
    · exact h.elim
  · exact h.elim
end
end NW

namespace NW
open PySem PySem.Spec PyProof.Rows L2
section
variable {G : Gx} {β β' : List Addr} {st st' : Sto} {H H' : Hp} {v : V} {u : U} {σ : L2.St} {l : Loc}
/-! ### tests -/
def bTest (m : ME) : MB := fun l st => (m l st).bind fun u st => match u with
  | .d (.bool b) => .ok b st
  | _ => .no
theorem s_tB {t : TE} {m : ME} (h : SimE G t m) : SimT G (tB t) (bTest m) := fun β H σ l st re Q q => by
  refine h β H σ l st re _ (wpR_bind q fun v u H1 β1 st1 f1 rl1 p1 h1 => ?_)
  split at h1
  · cases ru_bool p1
    exact ⟨_, rfl, h1 _ H1 β1 Fut.refl rl1 rfl⟩
  · exact h1.elim
theorem s_test {t : TE} {m : ME} (h : SimE G t m) : SimT G (tTest t) (bTest m) := s_tB h
def truD (st : Sto) (u : U) : Option Bool := match u with
  | .d .none => some false
  | .d (.bool b) => some b
  | .d (.int i) => some (i != 0)
  | .d (.str y) => if decide (y.length ≤ sizeLine) = true then some ((y.length : Int) != 0) else none
  | _ => (seqOf st u).map fun xs => !xs.isEmpty
def bTru (m : ME) : MB := fun l st => (m l st).bind fun u st => match truD st u with
  | some b => .ok b st
  | none => .no
theorem tru_v (rl : Rl G β H st) (h : RU G β (Ban G β st) H v u) {b : Bool} (e : truD st u = some b) : TruV G.K v H b := by
  unfold truD at e
  split at e
  · cases h; exact (Option.some.inj e).symm
  · cases h; exact (Option.some.inj e).symm
  · cases h; exact (Option.some.inj e).symm
  · cases h
    split at e
    · rename_i q
      exact ⟨of_decide_eq_true q, (Option.some.inj e).symm⟩
    · cases e
  · cases q : seqOf st u with
    | none => rw [q] at e; cases e
    | some xs =>
      rw [q] at e
      obtain ⟨p, vs, rfl, s, r⟩ := seq_q rl h q
      have e' : (!xs.isEmpty) = b := Option.some.inj e
      have z : b = !vs.isEmpty := by
        rw [← e']
        cases r <;> rfl
      rcases s with s | s
      · exact .inl ⟨vs, s, z⟩
      · exact .inr (.inl ⟨vs, s, z⟩)
theorem s_tru {t : TE} {m : ME} (h : SimE G t m) : SimT G (fun σ H Q => t σ H fun x H' => ∃ k, TruV G.K x H' k ∧ Q k H') (bTru m) := fun β H σ l st re Q q => by
  refine h β H σ l st re _ (wpR_bind q fun v u H1 β1 st1 f1 rl1 p1 h1 => ?_)
  split at h1
  · rename_i b e
    exact ⟨b, tru_v rl1 p1 e, h1 _ H1 β1 Fut.refl rl1 rfl⟩
  · exact h1.elim
def bAnd (a b : MB) : MB := fun l st => (a l st).bind fun c st => if c = true then b l st else .ok false st
def bOr (a b : MB) : MB := fun l st => (a l st).bind fun c st => if c = true then .ok true st else b l st
def bNot (a : MB) : MB := fun l st => (a l st).bind fun c st => .ok (!c) st
theorem wpR_b {b : Bool} {Q : Bool → Hp → Prop} (rl : Rl G β H st) (h : wpR G β H σ st PB (.ok b st) Q) : Q b H := h b H β Fut.refl rl rfl
theorem s_and {t u : TT} {a b : MB} (ha : SimT G t a) (hb : SimT G u b) : SimT G (tAnd t u) (bAnd a b) := fun β H σ l st re Q q => by
  refine ha β H σ l st re _ (wpR_bind q fun c c' H1 β1 st1 f1 rl1 p1 h1 => ?_)
  cases (show c = c' from p1)
  cases c with
  | true => exact hb β1 H1 σ l st1 (f1.re rl1 re) Q h1
  | false => exact wpR_b rl1 h1
theorem s_or {t u : TT} {a b : MB} (ha : SimT G t a) (hb : SimT G u b) : SimT G (tOr t u) (bOr a b) := fun β H σ l st re Q q => by
  refine ha β H σ l st re _ (wpR_bind q fun c c' H1 β1 st1 f1 rl1 p1 h1 => ?_)
  cases (show c = c' from p1)
  cases c with
  | false => exact hb β1 H1 σ l st1 (f1.re rl1 re) Q h1
  | true => exact wpR_b rl1 h1
theorem s_not {t : TT} {a : MB} (ha : SimT G t a) : SimT G (tNot t) (bNot a) := fun β H σ l st re Q q => by
  refine ha β H σ l st re _ (wpR_bind q fun c c' H1 β1 st1 f1 rl1 p1 h1 => ?_)
  cases (show c = c' from p1)
  exact wpR_b rl1 h1
/-! as values -/
def isB : U → Option Bool
  | .d (.bool b) => some b
  | _ => none
def eAndV (a b : ME) : ME := fun l st => (a l st).bind fun u st => match u with
  | .d (.bool c) => if c = true then b l st else .ok (.d (.bool false)) st
  | _ => .no
def eOrV (a b : ME) : ME := fun l st => (a l st).bind fun u st => match u with
  | .d (.bool c) => if c = true then .ok (.d (.bool true)) st else b l st
  | _ => .no
def eNotV (a : ME) : ME := fun l st => (a l st).bind fun u st => match u with
  | .d (.bool c) => .ok (.d (.bool (!c))) st
  | _ => .no
theorem s_andV {t u : TE} {a b : ME} (ha : SimE G t a) (hb : SimE G u b) : SimE G (tAndV t u) (eAndV a b) := fun β H σ l st re Q q => by
  refine ha β H σ l st re _ (wpR_bind q fun v w H1 β1 st1 f1 rl1 p1 h1 => ?_)
  split at h1
  · rename_i c
    cases ru_bool p1
    refine ⟨c, rfl, ?_⟩
    cases c with
    | true => exact hb β1 H1 σ l st1 (f1.re rl1 re) Q h1
    | false => exact wpR_d rl1 (.bl _) h1
  · exact h1.elim
theorem s_orV {t u : TE} {a b : ME} (ha : SimE G t a) (hb : SimE G u b) : SimE G (tOrV t u) (eOrV a b) := fun β H σ l st re Q q => by
  refine ha β H σ l st re _ (wpR_bind q fun v w H1 β1 st1 f1 rl1 p1 h1 => ?_)
  split at h1
  · rename_i c
    cases ru_bool p1
    refine ⟨c, rfl, ?_⟩
    cases c with
    | false => exact hb β1 H1 σ l st1 (f1.re rl1 re) Q h1
    | true => exact wpR_d rl1 (.bl _) h1
  · exact h1.elim
theorem s_notV {t : TE} {a : ME} (ha : SimE G t a) : SimE G (tNotV t) (eNotV a) := fun β H σ l st re Q q => by
  refine ha β H σ l st re _ (wpR_bind q fun v w H1 β1 st1 f1 rl1 p1 h1 => ?_)
  split at h1
  · rename_i c
    cases ru_bool p1
    exact ⟨c, rfl, wpR_d rl1 (.bl _) h1⟩
  · exact h1.elim
def eIf (c : MB) (a b : ME) : ME := fun l st => (c l st).bind fun k st => if k = true then a l st else b l st
theorem s_if {c : TT} {t u : TE} {k : MB} {a b : ME} (hc : SimT G c k) (ha : SimE G t a) (hb : SimE G u b) : SimE G (tIf c t u) (eIf k a b) := fun β H σ l st re Q q => by
  refine hc β H σ l st re _ (wpR_bind q fun c c' H1 β1 st1 f1 rl1 p1 h1 => ?_)
  cases (show c = c' from p1)
  cases c with
  | true => exact ha β1 H1 σ l st1 (f1.re rl1 re) Q h1
  | false => exact hb β1 H1 σ l st1 (f1.re rl1 re) Q h1
def eChain (f g : U → U → Sto → Res U) (a b c : ME) : ME := fun l st => (a l st).bind fun x st => (b l st).bind fun y st => (f x y st).bind fun z st => match z with
  | .d (.bool k) => if k = true then (c l st).bind fun w st => g y w st else .ok (.d (.bool false)) st
  | _ => .no
theorem s_chain {r r' : R2} {f g : U → U → Sto → Res U} {ta tb tc : TE} {a b c : ME} (hr : SimR G r f) (hr' : SimR G r' g) (ha : SimE G ta a) (hb : SimE G tb b) (hc : SimE G tc c) : SimE G (tChain r r' ta tb tc) (eChain f g a b c) := fun β H σ l st re Q h => by
  refine ha β H σ l st re _ (wpR_bind h fun v x H1 β1 st1 f1 rl1 p1 h1 => ?_)
  have re1 := f1.re rl1 re
  refine hb β1 H1 σ l st1 re1 _ (wpR_bind h1 fun w y H2 β2 st2 f2 rl2 p2 h2 => ?_)
  have re2 := f2.re rl2 re1
  refine hr β2 H2 σ l st2 re2 v w x y _ (f2.ru p1) p2 (wpR_bind h2 fun z k H3 β3 st3 f3 rl3 p3 h3 => ?_)
  split at h3
  · rename_i k
    cases ru_bool p3
    refine ⟨k, rfl, ?_⟩
    cases k with
    | false => exact wpR_d rl3 (.bl _) h3
    | true =>
      have re3 := f3.re rl3 re2
      refine hc β3 H3 σ l st3 re3 _ (wpR_bind h3 fun w' y' H4 β4 st4 f4 rl4 p4 h4 => ?_)
      exact hr' β4 H4 σ l st4 (f4.re rl4 re3) w w' y y' Q (f4.ru (f3.ru p2)) p4 h4
  · exact h3.elim
/-! ### arguments, displays -/
def aNil : MA := fun _ st => .ok [] st
def aCons (a : ME) (r : MA) : MA := fun l st => (a l st).bind fun u st => (r l st).bind fun us st => .ok (u :: us) st
theorem s_nil : SimA G tNil aNil := fun β H σ l st re Q h => h [] H β Fut.refl re.rl .nil
theorem Fut.rus (a : Fut G β st H β' st' H') : ∀ {vs : List V} {us : List U}, Paired (fun v u => RU G β (Ban G β st) H v u) vs us → Paired (fun v u => RU G β' (Ban G β' st') H' v u) vs us
  | _, _, .nil => .nil
  | _, _, .cons h t => .cons (a.ru h) (Fut.rus a t)
theorem s_cons {t : TE} {ta : TA} {a : ME} {r : MA} (ha : SimE G t a) (hr : SimA G ta r) : SimA G (tCons t ta) (aCons a r) := fun β H σ l st re Q h => by
  refine ha β H σ l st re _ (wpR_bind h fun v x H1 β1 st1 f1 rl1 p1 h1 => ?_)
  refine hr β1 H1 σ l st1 (f1.re rl1 re) _ (wpR_bind h1 fun w y H2 β2 st2 f2 rl2 p2 h2 => ?_)
  exact h2 (v :: w) H2 β2 Fut.refl rl2 (.cons (f2.ru p1) p2)
/-- all trees -/
def treesOf : List U → Option (List PyData)
  | [] => some []
  | .d x :: us => (treesOf us).map (x :: ·)
  | _ :: _ => none
theorem trees_r : ∀ {vs : List V} {us : List U} {ds : List PyData}, Paired (fun v u => RU G β (Ban G β st) H v u) vs us → treesOf us = some ds → RTs G.K (Ban G β st) H vs ds
  | _, [], ds, .nil, e => by cases e; exact .nil
  | _, .d x :: us, ds, .cons h t, e => by
    have e' : (treesOf us).map (x :: ·) = some ds := e
    cases q : treesOf us with
    | none => rw [q] at e'; cases e'
    | some es =>
      rw [q] at e'; cases e'
      exact .cons h (trees_r t q)
  | _, .ref i :: us, ds, .cons h t, e => by cases e
  | _, .flow :: us, ds, .cons h t, e => by cases e
  | _, .scr _ :: us, ds, .cons h t, e => by cases e
theorem Rl.tupB (rl : Rl G β H st) {p : Addr} {vs : List V} (h : Rd H p (.tup vs)) : ¬ Ban G β st p := fun z => rl.banNoTup z vs h
def lenOk (n : Nat) : Bool := decide (n ≤ sizeLine)
def eTup (a : MA) : ME := fun l st => (a l st).bind fun us st => match treesOf us with
  | some ds => if lenOk ds.length = true then .ok (.d (.tuple ds)) st else .no
  | none => .no
theorem new_tup (rl : Rl G β H st) {vs : List V} {ds : List PyData} {p : Addr} (hp : H p = none) (r : RTs G.K (Ban G β st) H vs ds) : Fut G β st H β st (upd H p (.tup vs)) ∧ Rl G β (upd H p (.tup vs)) st ∧ RT G.K (Ban G β st) (upd H p (.tup vs)) (.ref p) (.tuple ds) := by
  have f : Fut G β st H β st (upd H p (.tup vs)) := Fut.new hp
  exact ⟨f, rl.new hp, .tup (.inl ⟨.inl upd_same, rl.notBan hp⟩) (f.rts r)⟩
theorem new_lst (rl : Rl G β H st) {vs : List V} {ds : List PyData} {p : Addr} (hp : H p = none) (r : RTs G.K (Ban G β st) H vs ds) : Fut G β st H β st (upd H p (.lst vs)) ∧ Rl G β (upd H p (.lst vs)) st ∧ RT G.K (Ban G β st) (upd H p (.lst vs)) (.ref p) (.list ds) := by
  have f : Fut G β st H β st (upd H p (.lst vs)) := Fut.new hp
  exact ⟨f, rl.new hp, .lst ⟨upd_same, rl.notBan hp⟩ (f.rts r)⟩
theorem s_tup {ta : TA} {a : MA} (ha : SimA G ta a) : SimE G (tTup ta) (eTup a) := fun β H σ l st re Q h => by
  refine ha β H σ l st re _ (wpR_bind h fun vs us H1 β1 st1 f1 rl1 p1 h1 => ?_)
  split at h1
  · rename_i ds e
    split at h1
    · rename_i q
      have r := trees_r p1 e
      refine ⟨by rw [r.len]; exact of_decide_eq_true q, fun p hp => ?_⟩
      obtain ⟨f, rl', rt⟩ := new_tup rl1 hp r
      exact h1 _ _ β1 f rl' rt
    · exact h1.elim
  · exact h1.elim
/-! a new list: frozen, or own -/
def PN (G : Gx) (H0 : Hp) : List Addr → Sto → Hp → V → List PyData → Prop := fun β st H v xs => ∃ p vs, v = .ref p ∧ H p = none ∧ H0 p = none ∧ RTs G.K (Ban G β st) H vs xs
/-- the reading ends with a new list at any free place -/
def wpN (G : Gx) (β : List Addr) (H : Hp) (σ : L2.St) (st : Sto) (r : Res (List PyData)) (Q : VK) : Prop := match r with
  | .ok xs st' => ∀ H' β', Fut G β st H β' st' H' → Rl G β' H' st' → ∀ p vs, H' p = none → RTs G.K (Ban G β' st') H' vs xs → Q (.ref p) (upd H' p (.lst vs))
  | .ex e st' => ∀ cv dx H' β', Fut G β st H β' st' H' → Rl G β' H' st' → ExR G (Ban G β' st') H' e cv dx → G.W cv dx σ H'
  | .no => False
def SimN (G : Gx) (t : TE) (m : ML) : Prop := ∀ β H σ l st, Re G β H σ l st → ∀ Q, wpN G β H σ st (m l st) Q → t σ H Q
def eFrz (m : ML) : ME := fun l st => (m l st).bind fun xs st => .ok (.d (.list xs)) st
def eOwn (m : ML) : ME := fun l st => (m l st).bind fun xs st => .ok (.ref st.obs.length) (st.add xs)
theorem s_frz {t : TE} {m : ML} (h : SimN G t m) : SimE G t (eFrz m) := fun β H σ l st re Q q => by
  refine h β H σ l st re Q ?_
  unfold eFrz at q
  cases e : m l st with
  | no => rw [e] at q; exact q
  | ex x st' => rw [e] at q; exact q
  | ok xs st' =>
    rw [e] at q
    intro H' β' f rl p vs hp r
    obtain ⟨f2, rl2, rt⟩ := new_lst rl hp r
    exact q _ _ β' (f.trans f2) rl2 rt
theorem s_own {t : TE} {m : ML} (h : SimN G t m) : SimE G t (eOwn m) := fun β H σ l st re Q q => by
  refine h β H σ l st re Q ?_
  unfold eOwn at q
  cases e : m l st with
  | no => rw [e] at q; exact q
  | ex x st' => rw [e] at q; exact q
  | ok xs st' =>
    rw [e] at q
    intro H' β' f rl p vs hp r
    obtain ⟨f2, rl2⟩ := add_own rl hp r
    refine q _ _ (β' ++ [p]) (f.trans f2) rl2 ⟨p, ?_, rfl⟩
    rw [← rl.len]; simp
theorem wpN_bind {α γ : Type} {P : List Addr → Sto → Hp → γ → α → Prop} {r : Res α} {k : α → Sto → Res (List PyData)} {Q : VK}
    (h : wpN G β H σ st (r.bind k) Q) {R : γ → Hp → Prop} (hk : ∀ v a H' β' st', Fut G β st H β' st' H' → Rl G β' H' st' → P β' st' H' v a → wpN G β' H' σ st' (k a st') Q → R v H') : wpR G β H σ st P r R := by
  cases r with
  | ok a st' =>
    intro v H' β' f rl p
    refine hk v a H' β' st' f rl p ?_
    have h' : wpN G β H σ st (k a st') Q := h
    cases e : k a st' with
    | ok b st'' => rw [e] at h'; exact fun H'' β'' f' rl' => h' H'' β'' (f.trans f') rl'
    | ex x st'' => rw [e] at h'; exact fun cv dx H'' β'' f' rl' p' => h' cv dx H'' β'' (f.trans f') rl' p'
    | no => rw [e] at h'; exact h'
  | ex e st' => exact h
  | no => exact h
def lDisp (a : MA) : ML := fun l st => (a l st).bind fun us st => match treesOf us with
  | some ds => if lenOk ds.length = true then .ok ds st else .no
  | none => .no
theorem n_disp {ta : TA} {a : MA} (ha : SimA G ta a) : SimN G (tLst ta) (lDisp a) := fun β H σ l st re Q h => by
  refine ha β H σ l st re _ (wpN_bind h fun vs us H1 β1 st1 f1 rl1 p1 h1 => ?_)
  split at h1
  · rename_i ds e
    split at h1
    · rename_i q
      have r := trees_r p1 e
      exact ⟨by rw [r.len]; exact of_decide_eq_true q, fun p hp => h1 H1 β1 Fut.refl rl1 p vs hp r⟩
    · exact h1.elim
  · exact h1.elim
/-! ### items, slices -/
def idxN (n : Nat) (i : Int) : Option Nat := if 0 ≤ i then (if i < n then some i.toNat else none) else if -(n : Int) ≤ i then some (i + n).toNat else none
theorem ixN_eq (n : Nat) (i : Int) : ixN n i = idxN n i := rfl
theorem rts_atI {xs : List PyData} {vs : List V} {B : Addr → Prop} {i : Int} {j : Nat} {x : PyData} (r : RTs G.K B H vs xs) (h : idxN xs.length i = some j) (hx : xs[j]? = some x) : ∃ v, atI vs i = some v ∧ RT G.K B H v x := by
  obtain ⟨v, h1, h2⟩ := r.get hx
  refine ⟨v, ?_, h2⟩
  unfold atI
  rw [r.len, ixN_eq, h]
  exact h1
def strAt (z : Str) (i : Int) : Option Str := if decide (z.length ≤ sizeLine) = true then (atI z.cps.toList i).map fun c => ⟨#[c]⟩ else none
def flAt (f : Fl) (i : Int) : Option U := if i = 0 then some (.scr f.cells) else if i = 1 then some (.d (.int f.place)) else if i = 2 then some (.d (.int f.held)) else if i = 3 then some (.d (.int f.seed)) else if i = 4 then some (.d (.int f.many)) else none
theorem flAt_r (rl : Rl G β H st) {f : Fl} (hf : st.fl = some f) {i : Int} {u : U} (h : flAt f i = some u) : ∃ v, atI (flV G.fb f) i = some v ∧ RU G β (Ban G β st) H v u := by
  obtain ⟨⟨a, b⟩, _⟩ := rl.flo f hf
  unfold flAt at h
  split at h
  · rename_i e; subst e; cases h
    exact ⟨.ref G.fb, rfl, _, rfl, .inl ⟨.inl b.1, b.2⟩⟩
  · split at h
    · rename_i e; subst e; cases h; exact ⟨_, rfl, .int _⟩
    · split at h
      · rename_i e; subst e; cases h; exact ⟨_, rfl, .int _⟩
      · split at h
        · rename_i e; subst e; cases h; exact ⟨_, rfl, .int _⟩
        · split at h
          · rename_i e; subst e; cases h; exact ⟨_, rfl, .int _⟩
          · cases h
def fIx : U → U → Sto → Res U := fun a b st => match b with
  | .d (.int i) => (match a with
    | .flow => (match st.fl with
      | some f => (match flAt f i with
        | some u => .ok u st
        | none => .no)
      | none => .no)
    | .scr ns => (match (idxN ns.length i).bind fun j => ns[j]? with
      | some x => .ok (.d (.int x)) st
      | none => .no)
    | .d (.str z) => (match strAt z i with
      | some y => .ok (.d (.str y)) st
      | none => .no)
    | _ => (match seqOf st a with
      | some xs => (match (idxN xs.length i).bind fun j => xs[j]? with
        | some x => .ok (.d x) st
        | none => .no)
      | none => .no))
  | _ => .no
theorem r_ix : SimR G (rIx G.K) fIx := fun β H σ l st re x y a b Q hx hy h => by
  unfold fIx at h
  split at h
  · rename_i i
    cases ru_int hy
    split at h
    · split at h
      · rename_i f hf
        split at h
        · rename_i u e
          obtain ⟨v, h1, h2⟩ := flAt_r re.rl hf e
          cases (show x = .ref G.fa from hx)
          exact .inl ⟨G.fa, _, i, v, rfl, rfl, SqL.of (re.rl.flo f hf).1.here, h1, wpR_u re.rl h2 h⟩
        · exact h.elim
      · exact h.elim
    · rename_i ns
      split at h
      · rename_i w e2
        obtain ⟨p, rfl, s⟩ := hx
        cases e3 : idxN ns.length i with
        | none => rw [e3] at e2; cases e2
        | some j =>
          rw [e3] at e2
          refine .inl ⟨p, _, i, .int w, rfl, rfl, s.q, ?_, wpR_d re.rl (.int _) h⟩
          unfold atI
          rw [List.length_map, ixN_eq, e3]
          show (ns.map V.int)[j]? = _
          rw [List.getElem?_map, show ns[j]? = some w from e2]; rfl
      · exact h.elim
    · rename_i z
      cases ru_str hx
      unfold strAt at h
      split at h
      · rename_i y e
        split at e
        · rename_i q
          cases e2 : atI z.cps.toList i with
          | none => rw [e2] at e; cases e
          | some c =>
            rw [e2] at e; cases e
            exact .inr (.inr ⟨z, i, c, rfl, rfl, of_decide_eq_true q, e2, wpR_d re.rl (.str _) h⟩)
        · cases e
      · exact h.elim
    · split at h
      · rename_i xs e
        split at h
        · rename_i w e2
          obtain ⟨p, vs, rfl, s, r⟩ := seq_q re.rl hx e
          cases e3 : idxN xs.length i with
          | none => rw [e3] at e2; cases e2
          | some j =>
            rw [e3] at e2
            obtain ⟨v, h1, h2⟩ := rts_atI r e3 e2
            rcases s with s | s
            · exact .inl ⟨p, vs, i, v, rfl, rfl, s, h1, wpR_d re.rl h2 h⟩
            · exact .inr (.inl ⟨p, vs, i, v, rfl, rfl, s, h1, wpR_d re.rl h2 h⟩)
        · exact h.elim
      · exact h.elim
  · exact h.elim
/-- an optional part of a slice -/
abbrev MO := Loc → Sto → Res (Option Int)
def PO' : List Addr → Sto → Hp → Option Int → Option Int → Prop := fun _ _ _ a b => a = b
def SimO (G : Gx) (t : TO) (m : MO) : Prop := ∀ β H σ l st, Re G β H σ l st → ∀ Q, wpR G β H σ st PO' (m l st) Q → t σ H Q
def oNone : MO := fun _ st => .ok none st
def oSome (m : ME) : MO := fun l st => (m l st).bind fun u st => match u with
  | .d (.int i) => .ok (some i) st
  | _ => .no
theorem s_oNone : SimO G tNoPart oNone := fun β H σ l st re Q h => h none H β Fut.refl re.rl rfl
theorem s_oSome {t : TE} {m : ME} (h : SimE G t m) : SimO G (tPart t) (oSome m) := fun β H σ l st re Q q => by
  refine h β H σ l st re _ (wpR_bind q fun v u H1 β1 st1 f1 rl1 p1 h1 => ?_)
  split at h1
  · cases ru_int p1
    exact ⟨_, rfl, h1 _ H1 β1 Fut.refl rl1 rfl⟩
  · exact h1.elim
def cutD (xs : List PyData) (lo hi : Option Int) : List PyData := (xs.drop (HT.sIx xs.length 0 lo)).take (HT.sIx xs.length xs.length hi - HT.sIx xs.length 0 lo)
theorem RTs.cut {B : Addr → Prop} {K : PySem.W.Frag} {xs : List PyData} {vs : List V} (r : RTs K B H vs xs) (lo hi : Option Int) : RTs K B H (cutV vs lo hi) (cutD xs lo hi) := by
  unfold cutV cutD
  rw [r.len]
  exact (r.drop _).take _
/-- a list's slice: a new list -/
def lSl (m : ME) (lo hi : MO) : ML := fun l st => (m l st).bind fun u st => (lo l st).bind fun a st => (hi l st).bind fun b st => match listOf st u with
  | some xs => .ok (cutD xs a b) st
  | none => .no
theorem n_sl {t : TE} {tl th : TO} {m : ME} {lo hi : MO} (h : SimE G t m) (h1 : SimO G tl lo) (h2 : SimO G th hi) : SimN G (tSl (rSlL G.K) t tl th) (lSl m lo hi) := fun β H σ l st re Q q => by
  refine h β H σ l st re _ (wpN_bind q fun v u H1 β1 st1 f1 rl1 p1 q1 => ?_)
  have re1 := f1.re rl1 re
  refine h1 β1 H1 σ l st1 re1 _ (wpN_bind q1 fun a a' H2 β2 st2 f2 rl2 p2 q2 => ?_)
  cases (show a = a' from p2)
  have re2 := f2.re rl2 re1
  refine h2 β2 H2 σ l st2 re2 _ (wpN_bind q2 fun b b' H3 β3 st3 f3 rl3 p3 q3 => ?_)
  cases (show b = b' from p3)
  split at q3
  · rename_i xs e
    obtain ⟨p, vs, rfl, s, r⟩ := list_q rl3 (f3.ru (f2.ru p1)) e
    exact ⟨p, vs, rfl, s, fun z hz => q3 H3 β3 Fut.refl rl3 z _ hz (r.cut a b)⟩
  · exact q3.elim
/-- a tuple's, a text's slice -/
def eSlT (m : ME) (lo hi : MO) : ME := fun l st => (m l st).bind fun u st => (lo l st).bind fun a st => (hi l st).bind fun b st => match u with
  | .d (.tuple xs) => .ok (.d (.tuple (cutD xs a b))) st
  | _ => .no
theorem cut_whole {xs : List PyData} {lo hi : Option Int} (h : HT.sIx xs.length 0 lo = 0 ∧ HT.sIx xs.length xs.length hi = xs.length) : cutD xs lo hi = xs := by
  unfold cutD
  rw [h.1, h.2]; simp
theorem s_slT {t : TE} {tl th : TO} {m : ME} {lo hi : MO} (h : SimE G t m) (h1 : SimO G tl lo) (h2 : SimO G th hi) : SimE G (tSl (rSlA G.K) t tl th) (eSlT m lo hi) := fun β H σ l st re Q q => by
  refine h β H σ l st re _ (wpR_bind q fun v u H1 β1 st1 f1 rl1 p1 q1 => ?_)
  have re1 := f1.re rl1 re
  refine h1 β1 H1 σ l st1 re1 _ (wpR_bind q1 fun a a' H2 β2 st2 f2 rl2 p2 q2 => ?_)
  cases (show a = a' from p2)
  have re2 := f2.re rl2 re1
  refine h2 β2 H2 σ l st2 re2 _ (wpR_bind q2 fun b b' H3 β3 st3 f3 rl3 p3 q3 => ?_)
  cases (show b = b' from p3)
  split at q3
  · rename_i xs
    have p4 := f3.ru (f2.ru p1)
    obtain ⟨p, vs, rfl, s, r⟩ := tup_q p4 (xs := xs) rfl
    refine ⟨p, vs, rfl, s, fun w => ?_, fun w z hz => ?_⟩
    · rw [r.len] at w
      rw [cut_whole w] at q3
      exact wpR_u rl3 p4 q3
    · obtain ⟨f4, rl4, rt⟩ := new_tup rl3 hz (r.cut a b)
      exact q3 _ _ β3 f4 rl4 rt
  · exact q3.elim
end
end NW

namespace NW
open PySem PySem.Spec PyProof.Rows L2
def Gx.ban (G : Gx) (D : Addr) : Gx := { G with O0 := fun p => G.O0 p ∨ p = D }
/-! ### statements -/
def wpS (G : Gx) (β : List Addr) (H : Hp) (st : Sto) (o : Out) (D : Ends) : Prop := match o with
  | .nx l' st' => ∀ σ' H' β', Fut G β st H β' st' H' → Re G β' H' σ' l' st' → D.nx σ' H'
  | .bk l' st' => ∀ σ' H' β', Fut G β st H β' st' H' → Re G β' H' σ' l' st' → D.bk σ' H'
  | .ct l' st' => ∀ σ' H' β', Fut G β st H β' st' H' → Re G β' H' σ' l' st' → D.ct σ' H'
  | .rt u st' => ∀ v H' β', Fut G β st H β' st' H' → Rl G β' H' st' → RU G β' (Ban G β' st') H' v u → D.rt v H'
  | .ex e l' st' => ∀ cv dx σ' H' β', Fut G β st H β' st' H' → Re G β' H' σ' l' st' → ExR G (Ban G β' st') H' e cv dx → G.W cv dx σ' H'
  | .no => False
def SimS (G : Gx) (t : TS) (m : MS) : Prop := ∀ β H σ l st, Re G β H σ l st → ∀ D, wpS G β H st (m l st) D → t D σ H
def Res.out {α : Type} (r : Res α) (l : Loc) (k : α → Sto → Out) : Out := match r with
  | .ok a s => k a s
  | .ex e s => .ex e l s
  | .no => .no
def Out.seq (o : Out) (k : Loc → Sto → Out) : Out := match o with
  | .nx l st => k l st
  | o => o
section
variable {G : Gx} {β β' : List Addr} {st st' : Sto} {H H' : Hp} {v : V} {u : U} {σ σ' : L2.St} {l l' : Loc} {D : Ends}
theorem wpS_fut {o : Out} (f : Fut G β st H β' st' H') (h : wpS G β H st o D) : wpS G β' H' st' o D := by
  cases o with
  | nx l s => exact fun a b c d => h a b c (f.trans d)
  | bk l s => exact fun a b c d => h a b c (f.trans d)
  | ct l s => exact fun a b c d => h a b c (f.trans d)
  | rt u s => exact fun a b c d => h a b c (f.trans d)
  | ex e l s => exact fun a b c d e' f' => h a b c d e' (f.trans f')
  | no => exact h
theorem wpS_nx (re : Re G β H σ l st) (h : wpS G β H st (.nx l st) D) : D.nx σ H := h σ H β Fut.refl re
theorem wpS_res {α γ : Type} {P : List Addr → Sto → Hp → γ → α → Prop} {r : Res α} {k : α → Sto → Out} {R : γ → Hp → Prop} (re : Re G β H σ l st) (h : wpS G β H st (r.out l k) D)
    (hk : ∀ v a H' β' st', Fut G β st H β' st' H' → Rl G β' H' st' → P β' st' H' v a → wpS G β' H' st' (k a st') D → R v H') : wpR G β H σ st P r R := by
  cases r with
  | ok a st' => exact fun v H' β' f rl p => hk v a H' β' st' f rl p (wpS_fut f h)
  | ex e st' => exact fun cv dx H' β' f rl x => h cv dx σ H' β' f (f.re rl re) x
  | no => exact h
theorem wpS_seq {o : Out} {k : Loc → Sto → Out} {N : L2.St → Hp → Prop} (h : wpS G β H st (o.seq k) D) (hk : ∀ σ' H' β' l' st', Fut G β st H β' st' H' → Re G β' H' σ' l' st' → wpS G β' H' st' (k l' st') D → N σ' H') : wpS G β H st o { D with nx := N } := by
  cases o with
  | nx l' s => exact fun σ' H' β' f re => hk σ' H' β' l' s f re (wpS_fut f h)
  | bk l s => exact h
  | ct l s => exact h
  | rt u s => exact h
  | ex e l s => exact h
  | no => exact h
theorem RLoc.set {B : Addr → Prop} (h : RLoc G β B H σ l) (i : Nat) (r : RU G β B H v u) : RLoc G β B H (σ.set i (some v)) (l.set i (some u)) := by
  refine ⟨by rw [List.length_set, List.length_set, h.len], fun j w e => ?_⟩
  by_cases hj : j = i
  · subst hj
    have hl : j < l.length := by
      have := (List.getElem?_eq_some_iff.mp e).1
      rw [List.length_set] at this; exact this
    rw [List.getElem?_set_self hl] at e
    cases e
    exact ⟨v, by rw [List.getElem?_set_self (by rw [h.len]; exact hl)], r⟩
  · rw [List.getElem?_set_ne (Ne.symm hj)] at e
    rw [List.getElem?_set_ne (Ne.symm hj)]
    exact h.at_ j w e
def sNext : MS := fun l st => .nx l st
theorem t_next : SimS G tNext sNext := fun β H σ l st re D h => wpS_nx re h
def sSeq (a b : MS) : MS := fun l st => (a l st).seq b
theorem t_seq {t u : TS} {a b : MS} (ha : SimS G t a) (hb : SimS G u b) : SimS G (tSeq t u) (sSeq a b) := fun β H σ l st re D h =>
  ha β H σ l st re _ (wpS_seq h fun σ' H' β' l' st' f re' h' => hb β' H' σ' l' st' re' D h')
def sAsg (i : Nat) (m : ME) : MS := fun l st => (m l st).out l fun u st => .nx (l.set i (some u)) st
theorem t_asg {i : Nat} {t : TE} {m : ME} (h : SimE G t m) : SimS G (tAsg t (gName i)) (sAsg i m) := fun β H σ l st re D q =>
  h β H σ l st re _ (wpS_res re q fun v u H' β' st' f rl p q' => wpS_nx ⟨rl, (f.re rl re).lo.set i p⟩ q')
def sDrop (m : ME) : MS := fun l st => (m l st).out l fun _ st => .nx l st
theorem t_drop {t : TE} {m : ME} (h : SimE G t m) : SimS G (tDrop t) (sDrop m) := fun β H σ l st re D q =>
  h β H σ l st re _ (wpS_res re q fun v u H' β' st' f rl p q' => wpS_nx (f.re rl re) q')
def sRet (m : ME) : MS := fun l st => (m l st).out l fun u st => .rt u st
theorem t_ret {t : TE} {m : ME} (h : SimE G t m) : SimS G (tRet t) (sRet m) := fun β H σ l st re D q =>
  h β H σ l st re _ (wpS_res re q fun v u H' β' st' f rl p q' => q' v H' β' Fut.refl rl p)
def sRetN : MS := fun _ st => .rt (.d .none) st
theorem t_retN : SimS G tRetN sRetN := fun β H σ l st re D h => h .non H β Fut.refl re.rl .non
def sIf (c : MB) (a b : MS) : MS := fun l st => (c l st).out l fun k st => if k = true then a l st else b l st
theorem t_if {c : TT} {t u : TS} {k : MB} {a b : MS} (hc : SimT G c k) (ha : SimS G t a) (hb : SimS G u b) : SimS G (tIfS c t u) (sIf k a b) := fun β H σ l st re D q => by
  refine hc β H σ l st re _ (wpS_res re q fun v w H' β' st' f rl p q' => ?_)
  cases (show v = w from p)
  cases v with
  | true => exact ha β' H' σ l st' (f.re rl re) D q'
  | false => exact hb β' H' σ l st' (f.re rl re) D q'
def sPar (i j : Nat) (a : MA) : MS := fun l st => (a l st).out l fun us st => match us with
  | [u, w] => .nx ((l.set i (some u)).set j (some w)) st
  | _ => .no
theorem t_par {i j : Nat} {ta : TA} {a : MA} (h : SimA G ta a) : SimS G (tPar i j ta) (sPar i j a) := fun β H σ l st re D q => by
  refine h β H σ l st re _ (wpS_res re q fun vs us H' β' st' f rl p q' => ?_)
  split at q'
  · rename_i u w
    have p' : Paired (fun v u => RU G β' (Ban G β' st') H' v u) vs [u, w] := p
    cases p' with
    | cons r1 p2 =>
      cases p2 with
      | cons r2 p3 =>
        cases p3
        exact ⟨_, _, rfl, wpS_nx ⟨rl, ((f.re rl re).lo.set i r1).set j r2⟩ q'⟩
  · exact q'.elim
/-! ### targets -/
abbrev MT := U → Loc → Sto → Res Loc
def PL (G : Gx) (σ0 : L2.St) (vs : List Nat) : List Addr → Sto → Hp → L2.St → Loc → Prop := fun β st H σ l => RLoc G β (Ban G β st) H σ l ∧ σ.length = σ0.length ∧ ∀ i, i ∉ vs → σ[i]? = σ0[i]?
def SimG (G : Gx) (vs : List Nat) (g : TG) (m : MT) : Prop := ∀ β H σ l st, Re G β H σ l st → ∀ v u, RU G β (Ban G β st) H v u → ∀ Q : L2.St → Hp → Prop, wpR G β H σ st (PL G σ vs) (m u l st) Q → g v σ H Q
def gNameM (i : Nat) : MT := fun u l st => .ok (l.set i (some u)) st
theorem g_name (i : Nat) : SimG G [i] (gName i) (gNameM i) := fun β H σ l st re v u r Q h =>
  h (σ.set i (some v)) H β Fut.refl re.rl ⟨re.lo.set i r, by rw [List.length_set], fun j hj => by
    rw [List.getElem?_set_ne]
    intro e; subst e; exact hj (by simp)⟩
abbrev MTs := List PyData → Loc → Sto → Res Loc
def SimGs (G : Gx) (vs : List Nat) (g : TGs) (m : MTs) : Prop := ∀ β H σ l st, Re G β H σ l st → ∀ xs ds, RTs G.K (Ban G β st) H xs ds → ∀ Q : L2.St → Hp → Prop, wpR G β H σ st (PL G σ vs) (m ds l st) Q → g xs σ H Q
def gNilM : MTs := fun ds l st => match ds with | [] => .ok l st | _ => .no
def gConsM (t : MT) (r : MTs) : MTs := fun ds l st => match ds with
  | d :: ds => (t (.d d) l st).bind fun l st => r ds l st
  | [] => .no
theorem g_nil : SimGs G [] gNil gNilM := fun β H σ l st re xs ds r Q h => by
  cases ds with
  | nil => cases r; exact ⟨rfl, h σ H β Fut.refl re.rl ⟨re.lo, rfl, fun _ _ => rfl⟩⟩
  | cons d ds => exact False.elim h
theorem wpR_mono {α γ : Type} {P P' : List Addr → Sto → Hp → γ → α → Prop} {r : Res α} {Q : γ → Hp → Prop} (h : wpR G β H σ st P r Q) (k : ∀ β' st' H' v a, Fut G β st H β' st' H' → P' β' st' H' v a → P β' st' H' v a) : wpR G β H σ st P' r Q := by
  cases r with
  | ok a s => exact fun v H' β' f rl p => h v H' β' f rl (k _ _ _ _ _ f p)
  | ex e s => exact h
  | no => exact h
theorem wpR_sig {α γ : Type} {P : List Addr → Sto → Hp → γ → α → Prop} {r : Res α} {Q : γ → Hp → Prop} (h : wpR G β H σ st P r Q) (k : ∀ cv dx H', G.W cv dx σ H' → G.W cv dx σ' H') : wpR G β H σ' st P r Q := by
  cases r with
  | ok a s => exact h
  | ex e s => exact fun cv dx H' β' f rl x => k _ _ _ (h cv dx H' β' f rl x)
  | no => exact h
def Res.noEx {α : Type} : Res α → Prop
  | .ex _ _ => False
  | _ => True
theorem wpR_noEx {α γ : Type} {P : List Addr → Sto → Hp → γ → α → Prop} {r : Res α} {Q : γ → Hp → Prop} (n : r.noEx) (h : wpR G β H σ st P r Q) : wpR G β H σ' st P r Q := by
  cases r with
  | ok a s => exact h
  | ex e s => exact n.elim
  | no => exact h
theorem Res.noEx_bind {α γ : Type} {r : Res α} {k : α → Sto → Res γ} (h : (r.bind k).noEx) : ∀ a s, r = .ok a s → (k a s).noEx := fun a s e => by subst e; exact h
theorem g_cons {vs ws : List Nat} {g : TG} {gs : TGs} {t : MT} {r : MTs} (h1 : SimG G vs g t) (h2 : SimGs G ws gs r) (ne : ∀ ds l st, (r ds l st).noEx) : SimGs G (vs ++ ws) (gCons g gs) (gConsM t r) := fun β H σ l st re xs ds q Q h => by
  cases ds with
  | nil => exact False.elim h
  | cons d ds =>
    cases q with
    | cons q1 q2 =>
      refine ⟨_, _, rfl, h1 β H σ l st re _ (.d d) q1 _ (wpR_bind h fun σ1 l1 H1 β1 st1 f1 rl1 p1 k1 => ?_)⟩
      refine h2 β1 H1 σ1 l1 st1 ⟨rl1, p1.1⟩ _ ds (f1.rts q2) Q (wpR_mono (wpR_noEx (ne _ _ _) k1) fun β' st' H' σ2 l2 f p => ⟨p.1, p.2.1.trans p1.2.1, fun i hi => ?_⟩)
      rw [List.mem_append, not_or] at hi
      exact (p.2.2 i hi.2).trans (p1.2.2 i hi.1)
def gTupM (n : Nat) (r : MTs) : MT := fun u l st => match u with
  | .d (.tuple xs) => if xs.length = n then r xs l st else .no
  | _ => .no
theorem g_tup {vs : List Nat} {n : Nat} {gs : TGs} {r : MTs} (h : SimGs G vs gs r) : SimG G vs (gTup G.K n gs) (gTupM n r) := fun β H σ l st re v u q Q hw => by
  unfold gTupM at hw
  split at hw
  · rename_i xs
    split at hw
    · rename_i e
      obtain ⟨p, ws, rfl, s, r'⟩ := tup_q q (xs := xs) rfl
      exact ⟨p, ws, rfl, s, by rw [r'.len]; exact e, h β H σ l st re ws xs r' Q hw⟩
    · exact hw.elim
  · exact hw.elim
theorem gName_noEx (i : Nat) (u : U) (l : Loc) (st : Sto) : (gNameM i u l st).noEx := trivial
theorem gNil_noEx (ds : List PyData) (l : Loc) (st : Sto) : (gNilM ds l st).noEx := by unfold gNilM; split <;> trivial
theorem gCons_noEx {t : MT} {r : MTs} (h1 : ∀ u l st, (t u l st).noEx) (h2 : ∀ ds l st, (r ds l st).noEx) (ds : List PyData) (l : Loc) (st : Sto) : (gConsM t r ds l st).noEx := by
  unfold gConsM
  cases ds with
  | nil => trivial
  | cons d ds =>
    show ((t (.d d) l st).bind fun l st => r ds l st).noEx
    have q := h1 (.d d) l st
    cases e : t (.d d) l st with
    | ok l' s' => exact h2 ds l' s'
    | ex x s' => rw [e] at q; exact q
    | no => trivial
theorem gTup_noEx {n : Nat} {r : MTs} (h : ∀ ds l st, (r ds l st).noEx) (u : U) (l : Loc) (st : Sto) : (gTupM n r u l st).noEx := by
  unfold gTupM
  split
  · split
    · exact h _ _ _
    · trivial
  · trivial
def sAsgG (m : ME) (t : MT) : MS := fun l st => (m l st).out l fun u st => (t u l st).out l fun l' st => .nx l' st
theorem t_asgG {vs : List Nat} {t : TE} {m : ME} {g : TG} {mt : MT} (h : SimE G t m) (hg : SimG G vs g mt) : SimS G (tAsg t g) (sAsgG m mt) := fun β H σ l st re D q =>
  h β H σ l st re _ (wpS_res re q fun v u H' β' st' f rl p q' => by
    have re' := f.re rl re
    exact hg β' H' σ l st' re' v u p _ (wpS_res re' q' fun σ2 l2 H2 β2 st2 f2 rl2 p2 q2 => wpS_nx ⟨rl2, p2.1⟩ q2))
/-- o[i] = v -/
def flPut (f : Fl) (i x : Int) : Option Fl := if i = 1 then some { f with place := x } else if i = 2 then some { f with held := x } else if i = 3 then some { f with seed := x } else if i = 4 then some { f with many := x } else none
theorem flPut_v {fb : Addr} {f f' : Fl} {i x : Int} (h : flPut f i x = some f') : ∃ n, ixN 5 i = some n ∧ (flV fb f).set n (.int x) = flV fb f' ∧ f'.cells = f.cells := by
  unfold flPut at h
  split at h
  · rename_i e; subst e; cases h; exact ⟨1, rfl, rfl, rfl⟩
  · split at h
    · rename_i e; subst e; cases h; exact ⟨2, rfl, rfl, rfl⟩
    · split at h
      · rename_i e; subst e; cases h; exact ⟨3, rfl, rfl, rfl⟩
      · split at h
        · rename_i e; subst e; cases h; exact ⟨4, rfl, rfl, rfl⟩
        · cases h
def gSubM (o i : ME) : MT := fun u l st => (o l st).bind fun ou st => (i l st).bind fun iu st => match ou, iu, u with
  | .flow, .d (.int j), .d (.int x) => (match st.fl with
    | some f => (match flPut f j x with
      | some f' => .ok l { st with fl := some f' }
      | none => .no)
    | none => .no)
  | .ref k, .d (.int j), .d y => (match st.obs[k]? with
    | some (.lst xs) => (match idxN xs.length j with
      | some n => .ok l (st.put k (xs.set n y))
      | none => .no)
    | _ => .no)
  | _, _, _ => .no
theorem g_sub {to ti : TE} {o i : ME} (ho : SimE G to o) (hi : SimE G ti i) : SimG G [] (gSub to ti rSetL) (gSubM o i) := fun β H σ l st re v u r Q h => by
  refine ho β H σ l st re _ (wpR_bind h fun ov ou H1 β1 st1 f1 rl1 p1 h1 => ?_)
  have re1 := f1.re rl1 re
  refine hi β1 H1 σ l st1 re1 _ (wpR_bind h1 fun iv iu H2 β2 st2 f2 rl2 p2 h2 => ?_)
  have re2 := f2.re rl2 re1
  have r2 := f2.ru (f1.ru r)
  split at h2
  · rename_i j x
    cases ru_int p2
    cases ru_int r2
    split at h2
    · rename_i f hf
      split at h2
      · rename_i f' hp
        cases (show ov = .ref G.fa from f2.ru p1)
        obtain ⟨⟨a, b⟩, _⟩ := rl2.flo f hf
        obtain ⟨n, e1, e2, e3⟩ := flPut_v (fb := G.fb) hp
        refine ⟨G.fa, _, j, n, rfl, rfl, a, e1, ?_⟩
        obtain ⟨f3, rl3⟩ := flow_end (H' := upd H2 G.fa (.lst ((flV G.fb f).set n (.int x)))) rl2 hf (fun b o hb ne => by rw [upd_ne ne]; exact hb) (by rw [upd_same, e2]) e3
        exact h2 σ _ β2 f3 rl3 ⟨f3.rloc re2.lo, rfl, fun _ _ => rfl⟩
      · exact h2.elim
    · exact h2.elim
  · rename_i k j y
    cases ru_int p2
    split at h2
    · rename_i xs e
      split at h2
      · rename_i n en
        obtain ⟨p, e1, rfl⟩ := f2.ru p1
        obtain ⟨q, vs, a, b, c⟩ := rl2.ob k xs e
        rw [e1] at a; cases a
        refine ⟨p, vs, j, n, rfl, rfl, b, by rw [c.len, ixN_eq]; exact en, ?_⟩
        obtain ⟨f3, rl3⟩ := put_own rl2 e e1 (c.set n r2)
        exact h2 σ _ β2 f3 rl3 ⟨f3.rloc re2.lo, rfl, fun _ _ => rfl⟩
      · exact h2.elim
    · exact h2.elim
  · exact h2.elim
/-! ### while -/
def whileN (c : MB) (b : MS) : Nat → Loc → Sto → Out
  | 0, _, _ => .no
  | n + 1, l, st => (c l st).out l fun k st => if k = true then (match b l st with
      | .nx l st => whileN c b n l st
      | .ct l st => whileN c b n l st
      | .bk l st => .nx l st
      | o => o) else .nx l st
theorem whileN_succ {c : MB} {b : MS} : ∀ {n : Nat} {l : Loc} {st : Sto}, whileN c b n l st ≠ .no → whileN c b (n + 1) l st = whileN c b n l st
  | 0, _, _, h => absurd rfl h
  | n + 1, l, st, h => by
    rw [whileN]
    conv => rhs; rw [whileN]
    rw [whileN] at h
    cases e : c l st with
    | ok k s =>
      rw [e] at h
      simp only [Res.out] at h ⊢
      split
      · rename_i hk
        rw [if_pos hk] at h
        cases e2 : b l s with
        | nx l2 s2 => rw [e2] at h; exact whileN_succ h
        | ct l2 s2 => rw [e2] at h; exact whileN_succ h
        | bk l2 s2 => rfl
        | rt u s2 => rfl
        | ex x l2 s2 => rfl
        | no => rfl
      · rfl
    | ex x s => rfl
    | no => rfl
theorem whileN_le {c : MB} {b : MS} {n m : Nat} {l : Loc} {st : Sto} (h : whileN c b n l st ≠ .no) (hm : n ≤ m) : whileN c b m l st = whileN c b n l st := by
  obtain ⟨k, rfl⟩ := Nat.le.dest hm
  induction k with
  | zero => rfl
  | succ k ih =>
    have e := ih (by omega)
    have h2 : whileN c b (n + k) l st ≠ .no := by rw [e]; exact h
    exact (whileN_succ h2).trans e
open Classical in
noncomputable def sWhile (c : MB) (b : MS) : MS := fun l st => if h : ∃ n, whileN c b n l st ≠ .no then whileN c b h.choose l st else .no
theorem sWhile_of {c : MB} {b : MS} {l : Loc} {st : Sto} {o : Out} (n : Nat) (h : whileN c b n l st = o) (hn : o ≠ .no) : sWhile c b l st = o := by
  have hx : ∃ n, whileN c b n l st ≠ .no := ⟨n, by rw [h]; exact hn⟩
  unfold sWhile
  rw [dif_pos hx]
  have h1 := hx.choose_spec
  rcases Nat.le_total n hx.choose with z | z
  · rw [whileN_le (by rw [h]; exact hn) z]; exact h
  · rw [← whileN_le h1 z]; exact h
theorem t_while {c : TT} {t : TS} {k : MB} {b : MS} (hc : SimT G c k) (hb : SimS G t b) : SimS G (tWhile c t) (sWhile k b) := fun β H σ l st re D q => by
  unfold sWhile at q
  split at q
  · rename_i hx
    refine ⟨fun m σ' H' => ∃ β' l' st', Re G β' H' σ' l' st' ∧ wpS G β' H' st' (whileN k b m l' st') D, ⟨_, β, l, st, re, q⟩, ?_⟩
    rintro m σ1 H1 ⟨β1, l1, st1, re1, q1⟩
    cases m with
    | zero => exact False.elim q1
    | succ m =>
      rw [whileN] at q1
      refine hc β1 H1 σ1 l1 st1 re1 _ (wpS_res re1 q1 fun x y H2 β2 st2 f2 rl2 p2 q2 => ?_)
      cases (show x = y from p2)
      have re2 := f2.re rl2 re1
      cases x with
      | false => exact wpS_nx re2 q2
      | true =>
        refine ⟨fun σ' H' => ∃ β' l' st', Re G β' H' σ' l' st' ∧ wpS G β' H' st' (whileN k b m l' st') D, fun σ' H' h => ⟨m, Nat.lt_succ_self m, h⟩, ?_⟩
        refine hb β2 H2 σ1 l1 st2 re2 _ ?_
        have q2' : wpS G β2 H2 st2 (match b l1 st2 with
          | .nx l st => whileN k b m l st
          | .ct l st => whileN k b m l st
          | .bk l st => .nx l st
          | o => o) D := q2
        cases e : b l1 st2 with
        | nx l3 s3 => rw [e] at q2'; exact fun σ' H' β' f re' => ⟨β', l3, s3, re', wpS_fut f q2'⟩
        | ct l3 s3 => rw [e] at q2'; exact fun σ' H' β' f re' => ⟨β', l3, s3, re', wpS_fut f q2'⟩
        | bk l3 s3 => rw [e] at q2'; exact q2'
        | rt u s3 => rw [e] at q2'; exact q2'
        | ex x l3 s3 => rw [e] at q2'; exact q2'
        | no => rw [e] at q2'; exact q2'
  · exact q.elim
/-! ### what is walked -/
structure ItD where
  items : List PyData
  own : List (Nat × List PyData)
def ItD.chk (d : ItD) (st : Sto) : Prop := ∀ p ∈ d.own, st.obs[p.1]? = some (Ob.lst p.2)
abbrev MI := Loc → Sto → Res ItD
def Gx.o (G : Gx) (O1 : Addr → Prop) : Gx := { G with O0 := O1 }
def ItR (G : Gx) (β0 : List Addr) (st0 : Sto) (H0 : Hp) (J : It) (d : ItD) : Prop := ∀ O1 : Addr → Prop, (∀ p, O1 p → G.O0 p ∨ H0 p = none) → ∀ β H st, Fut G β0 st0 H0 β st H → Rl (G.o O1) β H st → d.chk st → ∀ i,
  (∀ y, d.items[i]? = some y → J.go i H ∧ ∀ x H', J.yld i H x H' → (H' = H ∨ ∃ T ws, H T = none ∧ H' = upd H T (.tup ws)) ∧ RT G.K (Ban (G.o O1) β st) H' x y) ∧ (d.items.length ≤ i → J.stop i H)
def SimI (G : Gx) (wi : TI) (m : MI) : Prop := ∀ β H σ l st, Re G β H σ l st → ∀ R : It → Hp → Prop, wpR G β H σ st (fun β st H J d => ItR G β st H J d) (m l st) R → wi σ H R
open Classical in
noncomputable def forM (d : ItD) (t : MT) (b : MS) : List PyData → Loc → Sto → Out
  | [], l, st => if d.chk st then .nx l st else .no
  | x :: xs, l, st => if d.chk st then (t (.d x) l st).out l fun l st => (match b l st with
      | .nx l st => forM d t b xs l st
      | .ct l st => forM d t b xs l st
      | .bk l st => .nx l st
      | o => o) else .no
noncomputable def sFor (mi : MI) (t : MT) (b : MS) : MS := fun l st => (mi l st).out l fun d st => forM d t b d.items l st
theorem it_fut (rl : Rl G β H st) (h : H' = H ∨ ∃ T ws, H T = none ∧ H' = upd H T (.tup ws)) : Fut G β st H β st H' ∧ Rl G β H' st := by
  rcases h with rfl | ⟨T, ws, hT, rfl⟩
  · exact ⟨Fut.refl, rl⟩
  · exact ⟨Fut.new hT, rl.new hT⟩
theorem t_for {wi : TI} {g : TG} {t : TS} {vs : List Nat} {mi : MI} {mt : MT} {b : MS} (hi : SimI G wi mi) (hg : SimG G vs g mt) (hb : SimS G t b) : SimS G (tFor wi g t) (sFor mi mt b) := fun β H σ l st re D q => by
  refine hi β H σ l st re _ (wpS_res re q fun J d H1 β1 st1 f1 rl1 itr q1 => ?_)
  have re1 := f1.re rl1 re
  refine ⟨fun i m σ' H' => m = d.items.length - i ∧ ∃ β' l' st', Fut G β1 st1 H1 β' st' H' ∧ Re G β' H' σ' l' st' ∧ wpS G β' H' st' (forM d mt b (d.items.drop i) l' st') D, ⟨_, rfl, β1, l, st1, Fut.refl, re1, q1⟩, ?_⟩
  rintro i m σ2 H2 ⟨rfl, β2, l2, st2, f2, re2, q2⟩
  cases hd : d.items[i]? with
  | none =>
    have hl : d.items.length ≤ i := List.getElem?_eq_none_iff.mp hd
    rw [List.drop_eq_nil_of_le hl, forM] at q2
    split at q2
    · rename_i hk
      exact .inl ⟨(itr G.O0 (fun p h => .inl h) β2 H2 st2 f2 re2.rl hk i).2 hl, wpS_nx re2 q2⟩
    · exact q2.elim
  | some y =>
    obtain ⟨hlt, ey⟩ := List.getElem?_eq_some_iff.mp hd
    rw [List.drop_eq_getElem_cons hlt, ey, forM] at q2
    split at q2
    · rename_i hk
      obtain ⟨hgo, hy⟩ := (itr G.O0 (fun p h => .inl h) β2 H2 st2 f2 re2.rl hk i).1 y hd
      refine .inr ⟨hgo, fun σ' H' => ∃ β' l' st', Fut G β1 st1 H1 β' st' H' ∧ Re G β' H' σ' l' st' ∧ wpS G β' H' st' (forM d mt b (d.items.drop (i + 1)) l' st') D, fun σ' H' h => ⟨_, by omega, rfl, h⟩, fun x H3 hyl => ?_⟩
      obtain ⟨hc, rx⟩ := hy x H3 hyl
      obtain ⟨f3, rl3⟩ := it_fut re2.rl hc
      have re3 := f3.re rl3 re2
      refine hg β2 H3 σ2 l2 st2 re3 x (.d y) rx _ (wpS_res re3 (wpS_fut f3 q2) fun σ4 l4 H4 β4 st4 f4 rl4 p4 q4 => ?_)
      refine hb β4 H4 σ4 l4 st4 ⟨rl4, p4.1⟩ _ ?_
      have q4' : wpS G β4 H4 st4 (match b l4 st4 with
          | .nx l st => forM d mt b (d.items.drop (i + 1)) l st
          | .ct l st => forM d mt b (d.items.drop (i + 1)) l st
          | .bk l st => .nx l st
          | o => o) D := q4
      have ff := f2.trans (f3.trans f4)
      cases e : b l4 st4 with
      | nx l5 s5 => rw [e] at q4'; exact fun σ' H' β' f re' => ⟨β', l5, s5, ff.trans f, re', wpS_fut f q4'⟩
      | ct l5 s5 => rw [e] at q4'; exact fun σ' H' β' f re' => ⟨β', l5, s5, ff.trans f, re', wpS_fut f q4'⟩
      | bk l5 s5 => rw [e] at q4'; exact q4'
      | rt u s5 => rw [e] at q4'; exact q4'
      | ex x l5 s5 => rw [e] at q4'; exact q4'
      | no => rw [e] at q4'; exact q4'
    · exact q2.elim
end
end NW

namespace NW
open PySem PySem.Spec PyProof.Rows L2
section
variable {G : Gx} {β β' : List Addr} {st st' : Sto} {H H' : Hp} {v : V} {u : U} {σ σ' : L2.St} {l l' : Loc} {D : Ends}
/-! ### sources of iteration -/
theorem ban_o {O1 : Addr → Prop} (hO : ∀ p, O1 p → G.O0 p ∨ H p = none) {p : Addr} (n : ¬ Ban G β st p) (t : H p ≠ none) : ¬ Ban (G.o O1) β st p := by
  rintro (h | h)
  · rcases hO p h with z | z
    · exact n (.inl z)
    · exact t z
  · exact n (.inr h)
theorem rd_ne {H : Hp} {a : Addr} {u : HO} (h : Rd H a u) : H a ≠ none := by
  rcases h with h | ⟨o, h⟩ <;> rw [h] <;> simp
mutual
theorem RT.o {B B' : Addr → Prop} {K : PySem.W.Frag} (k : ∀ p, ¬ B p → H p ≠ none → ¬ B' p) : ∀ (d : PyData) (v : V), RT K B H v d → RT K B' H v d
  | .none, _, h => by cases h; exact .non
  | .bool b, _, h => by cases h; exact .bl b
  | .int i, _, h => by cases h; exact .int i
  | .str x, _, h => by cases h; exact .str x
  | .list ds, _, h => by
    cases h with
    | lst hs ha => exact .lst ⟨hs.1, k _ hs.2 (by rw [hs.1]; simp)⟩ (RTs.o k ds _ ha)
  | .tuple ds, _, h => by
    cases h with
    | tup hs ha => exact .tup (hs.imp (fun z => ⟨z.1, k _ z.2 (rd_ne z.1)⟩) id) (RTs.o k ds _ ha)
  | .dict _, _, h => by cases h
theorem RTs.o {B B' : Addr → Prop} {K : PySem.W.Frag} (k : ∀ p, ¬ B p → H p ≠ none → ¬ B' p) : ∀ (ds : List PyData) (vs : List V), RTs K B H vs ds → RTs K B' H vs ds
  | [], _, h => by cases h; exact .nil
  | d :: ds, _, h => by
    cases h with
    | cons h1 h2 => exact .cons (RT.o k d _ h1) (RTs.o k ds _ h2)
end
theorem fut_o {O1 : Addr → Prop} (f : Fut G β st H β' st' H') : Fut (G.o O1) β st H β' st' H' := ⟨f.ext, f.there, f.stay⟩
def SrcL (G : Gx) (β0 : List Addr) (st0 : Sto) (H0 : Hp) (p : Addr) (own : List (Nat × List PyData)) (xs : List PyData) : Prop := ∀ O1 : Addr → Prop, (∀ p, O1 p → G.O0 p ∨ H0 p = none) → ∀ β H st, Fut G β0 st0 H0 β st H → Rl (G.o O1) β H st →
  (∀ q ∈ own, st.obs[q.1]? = some (Ob.lst q.2)) → ∃ vs, SqL G.K H p vs ∧ RTs G.K (Ban (G.o O1) β st) H vs xs
def SrcT (G : Gx) (β0 : List Addr) (st0 : Sto) (H0 : Hp) (p : Addr) (xs : List PyData) : Prop := ∀ O1 : Addr → Prop, (∀ p, O1 p → G.O0 p ∨ H0 p = none) → ∀ β H st, Fut G β0 st0 H0 β st H → Rl (G.o O1) β H st →
  ∃ vs, SqT G.K H p vs ∧ RTs G.K (Ban (G.o O1) β st) H vs xs
theorem rt_o_fut {O1 : Addr → Prop} (hO : ∀ p, O1 p → G.O0 p ∨ H p = none) (f : Fut G β st H β' st' H') {vs : List V} {xs : List PyData} (r : RTs G.K (Ban G β st) H vs xs) : RTs G.K (Ban (G.o O1) β' st') H' vs xs :=
  (fut_o (O1 := O1) f).rts (RTs.o (B' := Ban (G.o O1) β st) (fun p n t => ban_o hO n t) _ _ r)
/-- how a value is walked -/
def srcOf (st : Sto) : U → Option (List PyData × List (Nat × List PyData))
  | .d (.list xs) => some (xs, [])
  | .d (.tuple xs) => some (xs, [])
  | .ref i => match st.obs[i]? with | some (.lst xs) => some (xs, [(i, xs)]) | _ => none
  | _ => none
theorem src_q (rl : Rl G β H st) (h : RU G β (Ban G β st) H v u) {xs : List PyData} {own : List (Nat × List PyData)} (e : srcOf st u = some (xs, own)) :
    ∃ p, v = .ref p ∧ ((SrcL G β st H p own xs ∧ ∃ vs, SqL G.K H p vs ∧ vs.length = xs.length) ∨ (own = [] ∧ SrcT G β st H p xs ∧ ∃ vs, SqT G.K H p vs ∧ vs.length = xs.length)) := by
  unfold srcOf at e
  split at e
  · cases e
    cases h with
    | lst a b =>
      refine ⟨_, rfl, .inl ⟨fun O1 hO β1 H1 st1 f rl1 _ => ⟨_, ?_, rt_o_fut hO f b⟩, _, a.q, b.len⟩⟩
      have a' : SqLB G.K (Ban (G.o O1) β st) H _ _ := ⟨a.1, ban_o hO a.2 (by rw [a.1]; simp)⟩
      exact (a'.fut (fut_o f)).q
  · cases e
    cases h with
    | tup a b =>
      refine ⟨_, rfl, .inr ⟨rfl, fun O1 hO β1 H1 st1 f rl1 => ⟨_, ?_, rt_o_fut hO f b⟩, _, a.q, b.len⟩⟩
      have a' : SqTB G.K (Ban (G.o O1) β st) H _ _ := a.imp (fun z => ⟨z.1, ban_o hO z.2 (rd_ne z.1)⟩) id
      have z : SqTB G.K (Ban (G.o O1) β1 st1) H1 _ _ := a'.imp (fun z => (fut_o (O1 := O1) f).keep.rd z) id
      exact z.q
  · rename_i i
    split at e
    · rename_i hy
      cases e
      obtain ⟨p, h1, rfl⟩ := h
      refine ⟨p, rfl, .inl ⟨fun O1 hO β1 H1 st1 f rl1 hk => ?_, ?_⟩⟩
      · obtain ⟨q, vs, a, b, c⟩ := rl1.ob i xs (hk (i, xs) (by simp))
        rw [f.get h1] at a; cases a
        exact ⟨vs, SqL.of b, c⟩
      · obtain ⟨q, vs, a, b, c⟩ := rl.ob i _ hy
        rw [h1] at a; cases a
        exact ⟨vs, SqL.of b, c.len⟩
    · cases e
  · cases e
/-- for x in a list or a tuple -/
def iAny (K : PySem.W.Frag) (tl : TE) : TI := fun σ H R => tl σ H fun x H1 => ∃ a, x = .ref a ∧ (((∃ xs, SqL K H1 a xs) ∧ R (Itl K a) H1) ∨ ((∃ xs, SqT K H1 a xs) ∧ R (Itt K a) H1))
theorem pi_any {X : Cx} {tg l : Expr} {tl : TE} (hl : PE X l tl) : PI X tg l (iAny X.K tl) := by
  refine ⟨fun pins s σ H R I h => ?_⟩
  refine thn (hl.run pins s σ H _ I h) fun v s1 ⟨x, H1, I1, r1, q1⟩ => ?_
  obtain ⟨a, e, q⟩ := q1
  subst e
  cases r1
  rcases q with ⟨⟨xs, hq⟩, q⟩ | ⟨⟨xs, hq⟩, q⟩
  · obtain ⟨its, rv, p, hz⟩ := I1.list hq
    refine wpAny_pyIter_list p.isList ?_
    refine ⟨s1.heap.objs.size, [s1.heap.objs.size], _, _, H1, rfl, I1.kept (t' := s1.toks) fun b o e => Heap.get?_push_of_some _ e, turn_list a _, ⟨_, Heap.get?_push_size _ rfl, rfl, rfl⟩, fun b hb => ?_, q⟩
    have e : b = s1.heap.objs.size := by simpa using hb
    subst e
    exact I1.fpOk (Nat.le_refl _) (I1.hok.fresh (Nat.le_refl _))
  · obtain ⟨its, rv, p, hz⟩ := I1.tuple hq
    refine wpAny_pyIter_tuple (show s1.heap.IsTuple a its.toArray from p) ?_
    refine ⟨s1.heap.objs.size, [s1.heap.objs.size], _, _, H1, rfl, I1.kept (t' := s1.toks) fun b o e => Heap.get?_push_of_some _ e, turn_tuple a _, ⟨_, Heap.get?_push_size _ rfl, rfl, rfl⟩, fun b hb => ?_, q⟩
    have e : b = s1.heap.objs.size := by simpa using hb
    subst e
    exact I1.fpOk (Nat.le_refl _) (I1.hok.fresh (Nat.le_refl _))
def mAny (m : ME) : MI := fun l st => (m l st).bind fun u st => match srcOf st u with
  | some (xs, own) => .ok ⟨xs, own⟩ st
  | none => .no
theorem itl_r {p : Addr} {own : List (Nat × List PyData)} {xs : List PyData} (s : SrcL G β st H p own xs) : ItR G β st H (Itl G.K p) ⟨xs, own⟩ := fun O1 hO β1 H1 st1 f rl1 hk i => by
  obtain ⟨vs, sq, r⟩ := s O1 hO β1 H1 st1 f rl1 hk
  refine ⟨fun y hy => ?_, fun hi => ⟨vs, sq, by rw [r.len]; exact hi⟩⟩
  obtain ⟨w, hw, rw'⟩ := r.get hy
  refine ⟨⟨vs, w, sq, hw⟩, fun x H' hyl => ?_⟩
  obtain ⟨rfl, hx⟩ := hyl
  have e : w = x := Option.some.inj (hw.symm.trans (hx vs sq))
  subst e
  exact ⟨.inl rfl, rw'⟩
theorem itt_r {p : Addr} {xs : List PyData} (s : SrcT G β st H p xs) : ItR G β st H (Itt G.K p) ⟨xs, []⟩ := fun O1 hO β1 H1 st1 f rl1 hk i => by
  obtain ⟨vs, sq, r⟩ := s O1 hO β1 H1 st1 f rl1
  refine ⟨fun y hy => ?_, fun hi => ⟨vs, sq, by rw [r.len]; exact hi⟩⟩
  obtain ⟨w, hw, rw'⟩ := r.get hy
  refine ⟨⟨vs, w, sq, hw⟩, fun x H' hyl => ?_⟩
  obtain ⟨rfl, hx⟩ := hyl
  have e : w = x := Option.some.inj (hw.symm.trans (hx vs sq))
  subst e
  exact ⟨.inl rfl, rw'⟩
theorem i_any {t : TE} {m : ME} (h : SimE G t m) : SimI G (iAny G.K t) (mAny m) := fun β H σ l st re R q => by
  refine h β H σ l st re _ (wpR_bind q fun v u H1 β1 st1 f1 rl1 p1 h1 => ?_)
  split at h1
  · rename_i xs own e
    obtain ⟨p, rfl, ⟨s, vs, sq, _⟩ | ⟨rfl, s, vs, sq, _⟩⟩ := src_q rl1 p1 e
    · exact ⟨p, rfl, .inl ⟨⟨vs, sq⟩, h1 _ H1 β1 Fut.refl rl1 (itl_r s)⟩⟩
    · exact ⟨p, rfl, .inr ⟨⟨vs, sq⟩, h1 _ H1 β1 Fut.refl rl1 (itt_r s)⟩⟩
  · exact h1.elim
/-! ### ranges -/
def rangeD (lo c : Int) (n : Nat) : List PyData := (List.range n).map fun i => .int (lo + (i : Nat) * c)
theorem itc_r {lo c : Int} {n : Nat} : ItR G β st H (Itc lo c n) ⟨rangeD lo c n, []⟩ := fun O1 hO β1 H1 st1 f rl1 hk i => by
  refine ⟨fun y hy => ?_, fun hi => (show n ≤ i by simpa [rangeD] using hi)⟩
  have hi : i < n := by
    have := (List.getElem?_eq_some_iff.mp hy).1
    simpa [rangeD] using this
  refine ⟨hi, fun x H' hyl => ?_⟩
  obtain ⟨rfl, rfl⟩ := hyl
  have e : (rangeD lo c n)[i]? = some (.int (lo + (i : Nat) * c)) := by simp [rangeD, hi]
  rw [e] at hy; cases hy
  exact ⟨.inl rfl, .int _⟩
theorem itr_r {lo : Int} {n : Nat} : ItR G β st H (Itr lo n) ⟨rangeD lo 1 n, []⟩ := fun O1 hO β1 H1 st1 f rl1 hk i => by
  refine ⟨fun y hy => ?_, fun hi => (show n ≤ i by simpa [rangeD] using hi)⟩
  have hi : i < n := by
    have := (List.getElem?_eq_some_iff.mp hy).1
    simpa [rangeD] using this
  refine ⟨hi, fun x H' hyl => ?_⟩
  obtain ⟨rfl, rfl⟩ := hyl
  have e : (rangeD lo 1 n)[i]? = some (.int (lo + (i : Nat) * 1)) := by simp [rangeD, hi]
  rw [Int.mul_one] at e
  rw [e] at hy; cases hy
  exact ⟨.inl rfl, .int _⟩
def rOk (i : Int) : Bool := decide (-(2 ^ 62) ≤ i ∧ i < 2 ^ 62)
theorem int1 {vs : List V} {i : Int} (p : PUs G β st H vs [.d (.int i)]) : vs = [.int i] := by
  have p' : Paired (fun v u => RU G β (Ban G β st) H v u) vs [.d (.int i)] := p
  cases p' with
  | cons r q => cases q; cases ru_int r; rfl
theorem int2 {vs : List V} {i j : Int} (p : PUs G β st H vs [.d (.int i), .d (.int j)]) : vs = [.int i, .int j] := by
  have p' : Paired (fun v u => RU G β (Ban G β st) H v u) vs [.d (.int i), .d (.int j)] := p
  cases p' with
  | cons r q =>
    cases q with
    | cons r2 q2 => cases q2; cases ru_int r; cases ru_int r2; rfl
theorem int3 {vs : List V} {i j k : Int} (p : PUs G β st H vs [.d (.int i), .d (.int j), .d (.int k)]) : vs = [.int i, .int j, .int k] := by
  have p' : Paired (fun v u => RU G β (Ban G β st) H v u) vs [.d (.int i), .d (.int j), .d (.int k)] := p
  cases p' with
  | cons r q =>
    cases q with
    | cons r2 q2 =>
      cases q2 with
      | cons r3 q3 => cases q3; cases ru_int r; cases ru_int r2; cases ru_int r3; rfl
def mR1 (a : MA) : MI := fun l st => (a l st).bind fun us st => match us with
  | [.d (.int j)] => if rOk j = true then .ok ⟨rangeD 0 1 j.toNat, []⟩ st else .no
  | _ => .no
theorem i_r1 {ta : TA} {a : MA} (h : SimA G ta a) : SimI G (iRng1 ta) (mR1 a) := fun β H σ l st re R q => by
  refine h β H σ l st re _ (wpR_bind q fun vs us H1 β1 st1 f1 rl1 p1 h1 => ?_)
  split at h1
  · rename_i j
    split at h1
    · rename_i hr
      have hr' := of_decide_eq_true hr
      exact ⟨j, int1 p1, hr'.1, hr'.2, h1 _ H1 β1 Fut.refl rl1 itr_r⟩
    · exact h1.elim
  · exact h1.elim
def mR2 (a : MA) : MI := fun l st => (a l st).bind fun us st => match us with
  | [.d (.int i), .d (.int j)] => if (rOk i && rOk j) = true then .ok ⟨rangeD i 1 (j - i).toNat, []⟩ st else .no
  | _ => .no
theorem i_r2 {ta : TA} {a : MA} (h : SimA G ta a) : SimI G (iRng2 ta) (mR2 a) := fun β H σ l st re R q => by
  refine h β H σ l st re _ (wpR_bind q fun vs us H1 β1 st1 f1 rl1 p1 h1 => ?_)
  split at h1
  · rename_i i j
    split at h1
    · rename_i hr
      rw [Bool.and_eq_true] at hr
      have h1' := of_decide_eq_true hr.1
      have h2' := of_decide_eq_true hr.2
      exact ⟨i, j, int2 p1, ⟨h1'.1, h1'.2, h2'.1, h2'.2⟩, h1 _ H1 β1 Fut.refl rl1 itr_r⟩
    · exact h1.elim
  · exact h1.elim
/-- range(a, b, -1) -/
def mR3 (a : MA) : MI := fun l st => (a l st).bind fun us st => match us with
  | [.d (.int i), .d (.int j), .d (.int k)] => if (rOk i && rOk j && decide (k = -1)) = true then .ok ⟨rangeD i (-1) (i - j).toNat, []⟩ st else .no
  | _ => .no
theorem i_r3 {ta : TA} {a : MA} (h : SimA G ta a) : SimI G (iRng3 ta) (mR3 a) := fun β H σ l st re R q => by
  refine h β H σ l st re _ (wpR_bind q fun vs us H1 β1 st1 f1 rl1 p1 h1 => ?_)
  split at h1
  · rename_i i j k
    split at h1
    · rename_i hr
      rw [Bool.and_eq_true, Bool.and_eq_true] at hr
      have h1' := of_decide_eq_true hr.1.1
      have h2' := of_decide_eq_true hr.1.2
      have h3' := of_decide_eq_true hr.2
      subst h3'
      exact ⟨i, j, -1, _, int3 p1, RgC.neg h1'.1 h1'.2 h2'.1 h2'.2, h1 _ H1 β1 Fut.refl rl1 itc_r⟩
    · exact h1.elim
  · exact h1.elim
/-! ### reversed -/
theorem itv_r {p : Addr} {own : List (Nat × List PyData)} {xs : List PyData} (s : SrcL G β st H p own xs) : ItR G β st H (Itv G.K p xs.length) ⟨xs.reverse, own⟩ := fun O1 hO β1 H1 st1 f rl1 hk i => by
  obtain ⟨vs, sq, r⟩ := s O1 hO β1 H1 st1 f rl1 hk
  refine ⟨fun y hy => ?_, fun hi => (show xs.length ≤ i by simpa using hi)⟩
  have hi : i < xs.length := by
    have := (List.getElem?_eq_some_iff.mp hy).1
    simpa using this
  have hy' : xs[xs.length - 1 - i]? = some y := by rw [← List.getElem?_reverse hi]; exact hy
  obtain ⟨w, hw, rw'⟩ := r.get hy'
  refine ⟨⟨hi, vs, w, sq, hw⟩, fun x H' hyl => ?_⟩
  obtain ⟨rfl, hx⟩ := hyl
  have e : w = x := Option.some.inj (hw.symm.trans (hx vs sq))
  subst e
  exact ⟨.inl rfl, rw'⟩
theorem itvt_r {p : Addr} {xs : List PyData} (s : SrcT G β st H p xs) : ItR G β st H (_root_.RT.ItvT G.K p xs.length) ⟨xs.reverse, []⟩ := fun O1 hO β1 H1 st1 f rl1 hk i => by
  obtain ⟨vs, sq, r⟩ := s O1 hO β1 H1 st1 f rl1
  refine ⟨fun y hy => ?_, fun hi => (show xs.length ≤ i by simpa using hi)⟩
  have hi : i < xs.length := by
    have := (List.getElem?_eq_some_iff.mp hy).1
    simpa using this
  have hy' : xs[xs.length - 1 - i]? = some y := by rw [← List.getElem?_reverse hi]; exact hy
  obtain ⟨w, hw, rw'⟩ := r.get hy'
  refine ⟨⟨hi, vs, w, sq, hw⟩, fun x H' hyl => ?_⟩
  obtain ⟨rfl, hx⟩ := hyl
  have e : w = x := Option.some.inj (hw.symm.trans (hx vs sq))
  subst e
  exact ⟨.inl rfl, rw'⟩
def mRev (m : ME) : MI := fun l st => (m l st).bind fun u st => match srcOf st u with
  | some (xs, own) => .ok ⟨xs.reverse, own⟩ st
  | none => .no
theorem i_rev {t : TE} {m : ME} (h : SimE G t m) : SimI G (_root_.RT.iRevA G.K t) (mRev m) := fun β H σ l st re R q => by
  refine h β H σ l st re _ (wpR_bind q fun v u H1 β1 st1 f1 rl1 p1 h1 => ?_)
  split at h1
  · rename_i xs own e
    obtain ⟨p, rfl, ⟨s, vs, sq, ln⟩ | ⟨rfl, s, vs, sq, ln⟩⟩ := src_q rl1 p1 e
    · exact ⟨p, vs, rfl, .inl ⟨sq, by rw [ln]; exact h1 _ H1 β1 Fut.refl rl1 (itv_r s)⟩⟩
    · exact ⟨p, vs, rfl, .inr ⟨sq, by rw [ln]; exact h1 _ H1 β1 Fut.refl rl1 (itvt_r s)⟩⟩
  · exact h1.elim
end
end NW

namespace NW
open PySem PySem.Spec PyProof.Rows L2
section
variable {G : Gx} {β β' : List Addr} {st st' : Sto} {H H' : Hp} {v : V} {u : U} {σ σ' : L2.St} {l l' : Loc} {D : Ends}
theorem list_h (rl : Rl G β H st) (h : RU G β (Ban G β st) H v u) {xs : List PyData} (e : listOf st u = some xs) : ∃ p vs, v = .ref p ∧ H p = some (.lst vs) ∧ RTs G.K (Ban G β st) H vs xs := by
  unfold listOf at e
  split at e
  · cases e
    cases h with
    | lst a b => exact ⟨_, _, rfl, a.1, b⟩
  · rename_i i
    split at e
    · rename_i hy
      cases e
      obtain ⟨p, h1, rfl⟩ := h
      obtain ⟨q, vs, a, b, c⟩ := rl.ob i _ hy
      rw [h1] at a; cases a
      exact ⟨p, vs, rfl, b, c⟩
    · cases e
  · cases e
/-! ### comprehensions -/
def wipeL (l : Loc) : List Nat → Loc
  | [] => l
  | v :: vs => (wipeL l vs).set v none
theorem wipe_re {B : Addr → Prop} (h : RLoc G β B H σ l) : ∀ vs, RLoc G β B H (wipe σ vs) (wipeL l vs)
  | [] => h
  | i :: vs => by
    have ih := wipe_re h vs
    refine ⟨by unfold wipe wipeL; rw [List.length_set, List.length_set, ih.len], fun j w e => ?_⟩
    unfold wipeL at e
    by_cases hj : j = i
    · subst hj
      have hl : j < (wipeL l vs).length := by
        have := (List.getElem?_eq_some_iff.mp e).1
        rw [List.length_set] at this; exact this
      rw [List.getElem?_set_self hl] at e
      cases e
    · rw [List.getElem?_set_ne (Ne.symm hj)] at e
      unfold wipe
      rw [List.getElem?_set_ne (Ne.symm hj)]
      exact ih.at_ j w e
theorem wipe_get (σ : L2.St) : ∀ (vs : List Nat) (i : Nat), (wipe σ vs)[i]? = if i ∈ vs then (if i < σ.length then some none else none) else σ[i]?
  | [], i => by simp [wipe]
  | v :: vs, i => by
    unfold wipe
    rw [List.getElem?_set]
    have ih := wipe_get σ vs i
    rw [wipe_length]
    by_cases e : v = i
    · subst e; simp
    · rw [if_neg e, ih]
      have e' : ¬ i = v := fun q => e q.symm
      simp [e']
theorem wipe_same {σ1 σ2 : L2.St} {vs ws : List Nat} (hs : ∀ i ∈ ws, i ∈ vs) (hl : σ2.length = σ1.length) (h : ∀ i, i ∉ ws → σ2[i]? = σ1[i]?) : wipe σ2 vs = wipe σ1 vs := by
  apply List.ext_getElem?
  intro i
  rw [wipe_get, wipe_get, hl]
  split
  · rfl
  · rename_i n
    exact h i fun z => n (hs i z)
theorem wipe_idem (σ : L2.St) (vs : List Nat) : wipe (wipe σ vs) vs = wipe σ vs := by
  apply List.ext_getElem?
  intro i
  rw [wipe_get, wipe_get, wipe_length]
  split
  · rfl
  · rfl
def Res.noX {α : Type} (r : Res α) : Res α := match r with
  | .ok a s => .ok a s
  | _ => .no
def Res.isOk {α : Type} (r : Res α) : Prop := ∃ a s, r = .ok a s
theorem noX_bind {α γ : Type} {r : Res α} {k : α → Sto → Res γ} (h : (r.noX.bind k).isOk) : ∃ a s, r = .ok a s ∧ (k a s).isOk := by
  cases r with
  | ok a s => exact ⟨a, s, rfl, h⟩
  | ex e s => obtain ⟨_, _, z⟩ := h; cases z
  | no => obtain ⟨_, _, z⟩ := h; cases z
theorem bind_isOk {α γ : Type} {r : Res α} {k : α → Sto → Res γ} (h : (r.bind k).isOk) : ∃ a s, r = .ok a s ∧ (k a s).isOk := by
  cases r with
  | ok a s => exact ⟨a, s, rfl, h⟩
  | ex e s => obtain ⟨_, _, z⟩ := h; cases z
  | no => obtain ⟨_, _, z⟩ := h; cases z
theorem wpR_isOk {α γ : Type} {P : List Addr → Sto → Hp → γ → α → Prop} {r : Res α} {a : α} {Q : γ → Hp → Prop} (e : r = .ok a st') (h : ∀ v H' β', Fut G β st H β' st' H' → Rl G β' H' st' → P β' st' H' v a → Q v H') : wpR G β H σ st P r Q := by
  subst e; exact h
open Classical in
noncomputable def lcM (d : ItD) (vs : List Nat) (t : MT) (c : MB) (m : ME) (l : Loc) : List PyData → Sto → Res (List PyData)
  | [], st => if d.chk st then .ok [] st else .no
  | x :: xs, st => if d.chk st then (t (.d x) (wipeL l vs) st).noX.bind fun l1 st => (c l1 st).noX.bind fun b st => if b = true then (m l1 st).noX.bind fun u st => (match u with
      | .d y => (lcM d vs t c m l xs st).bind fun ys st => .ok (y :: ys) st
      | _ => .no) else lcM d vs t c m l xs st else .no
noncomputable def lLc (mi : MI) (vs : List Nat) (t : MT) (c : MB) (m : ME) : ML := fun l st => (mi l st).bind fun d st => if lenOk d.items.length = true then lcM d vs t c m l d.items st else .no
theorem lcM_noEx {d : ItD} {vs : List Nat} {t : MT} {c : MB} {m : ME} {l : Loc} : ∀ (xs : List PyData) (st : Sto), (lcM d vs t c m l xs st).noEx
  | [], st => by unfold lcM; split <;> trivial
  | x :: xs, st => by
    unfold lcM
    split
    · cases e1 : t (.d x) (wipeL l vs) st with
      | ok l1 s1 =>
        show ((c l1 s1).noX.bind _).noEx
        cases e2 : c l1 s1 with
        | ok b s2 =>
          show (if b = true then _ else _ : Res (List PyData)).noEx
          cases b with
          | true =>
            rw [if_pos rfl]
            cases e3 : m l1 s2 with
            | ok u s3 =>
              cases u with
              | d y =>
                show ((lcM d vs t c m l xs s3).bind _).noEx
                have ih := lcM_noEx (d := d) (vs := vs) (t := t) (c := c) (m := m) (l := l) xs s3
                cases e4 : lcM d vs t c m l xs s3 with
                | ok ys s4 => trivial
                | ex e s4 => rw [e4] at ih; exact ih
                | no => trivial
              | _ => trivial
            | ex e s3 => trivial
            | no => trivial
          | false =>
            rw [if_neg Bool.false_ne_true]
            exact lcM_noEx xs s2
        | ex e s2 => trivial
        | no => trivial
      | ex e s1 => trivial
      | no => trivial
    · trivial
theorem Rl.ban (rl : Rl G β H st) {D : Addr} {o : HO} (hD : H D = none) (ho : ∀ vs, ¬ Rd (upd H D o) D (.tup vs)) : Rl (G.ban D) β (upd H D o) st := by
  have f : Fut G β st H β st (upd H D o) := Fut.new hD
  have kk : Keep (Ban G β st) H (Ban (G.ban D) β st) (upd H D o) := fun b x hb n => by
    have hne : b ≠ D := ne_of_none hb hD
    refine ⟨by rw [upd_ne hne]; exact hb, ?_⟩
    rintro ((h | h) | h)
    · exact n (.inl h)
    · exact hne h
    · exact n (.inr h)
  refine ⟨rl.len, rl.nodup, fun q hq => f.there q (rl.trk q hq), fun i xs h => ?_, fun g hg => ?_, fun q hq => ?_⟩
  · obtain ⟨q, vs, a, b, c⟩ := rl.ob i xs h
    exact ⟨q, vs, a, by rw [upd_ne (ne_of_none b hD)]; exact b, RTs.mono kk _ _ c⟩
  · obtain ⟨⟨a, b⟩, c⟩ := rl.flo g hg
    exact ⟨⟨by show upd H D o G.fa = _; rw [upd_ne (ne_of_none a hD)]; exact a, kk _ _ b.1 b.2⟩, c⟩
  · rcases hq with hq | hq
    · exact rl.o0_fut f q hq (rl.o0 q hq).2.1
    · subst hq
      exact ⟨by rw [upd_same]; simp, fun w => rl.notBan hD (.inr w), ho⟩
theorem RLoc.ban (h : RLoc G β (Ban G β st) H σ l) {D : Addr} {o : HO} (hD : H D = none) : RLoc (G.ban D) β (Ban (G.ban D) β st) (upd H D o) σ l := by
  have kk : Keep (Ban G β st) H (Ban (G.ban D) β st) (upd H D o) := fun b x hb n => by
    have hne : b ≠ D := ne_of_none hb hD
    refine ⟨by rw [upd_ne hne]; exact hb, ?_⟩
    rintro ((h | h) | h)
    · exact n (.inl h)
    · exact hne h
    · exact n (.inr h)
  refine ⟨h.len, fun i w e => ?_⟩
  obtain ⟨v, h1, h2⟩ := h.at_ i w e
  refine ⟨v, h1, ?_⟩
  cases w with
  | d x => exact RT.mono kk x v h2
  | ref i => exact h2
  | flow => exact h2
  | scr ns =>
    obtain ⟨p, z1, z2⟩ := h2
    exact ⟨p, z1, z2.imp (fun z => kk.rd z) id⟩
/-- behind the comprehension: the list is taken out again -/
def cutH (H : Hp) (D : Addr) : Hp := fun b => if b = D then none else H b
theorem cutH_upd {D : Addr} {o : HO} (h : H D = some o) : upd (cutH H D) D o = H := by
  funext b
  unfold upd cutH
  split
  · rename_i e; subst e; exact h.symm
  · rfl
theorem cutH_ne {D b : Addr} (h : b ≠ D) : cutH H D b = H b := by unfold cutH; rw [if_neg h]
theorem cut_keep {D : Addr} : Keep (Ban (G.ban D) β st) H (Ban G β st) (cutH H D) := fun b o h n => by
  have e : b ≠ D := fun e => n (.inl (.inr e))
  exact ⟨by rw [cutH_ne e]; exact h, fun w => n (w.imp .inl id)⟩
theorem Rl.unban {D : Addr} (rl : Rl (G.ban D) β H st) (hb : D ∉ β) (hO : ¬ G.O0 D) : Rl G β (cutH H D) st := by
  have nD : ¬ Own G β st D := (rl.o0 D (.inr rfl)).2.1
  have ne : ∀ q ∈ β, q ≠ D := fun q hq e => hb (e ▸ hq)
  refine ⟨rl.len, rl.nodup, fun q hq => by rw [cutH_ne (ne q hq)]; exact rl.trk q hq, fun i xs h => ?_, fun g hg => ?_, fun q hq => ?_⟩
  · obtain ⟨q, vs, a, b, c⟩ := rl.ob i xs h
    exact ⟨q, vs, a, by rw [cutH_ne (ne q (List.mem_of_getElem? a))]; exact b, RTs.mono cut_keep _ _ c⟩
  · obtain ⟨⟨a, b⟩, c⟩ := rl.flo g hg
    have n1 : G.fa ≠ D := fun e => nD (.inl ⟨by rw [hg]; rfl, e.symm⟩)
    exact ⟨⟨by show cutH H D G.fa = _; rw [cutH_ne n1]; exact a, cut_keep _ _ b.1 b.2⟩, c⟩
  · obtain ⟨a, b, c⟩ := rl.o0 q (.inl hq)
    by_cases e : q = D
    · subst e; exact absurd hq hO
    · refine ⟨by rw [cutH_ne e]; exact a, b, fun vs h => c vs ?_⟩
      unfold Rd at h ⊢
      rw [cutH_ne e] at h; exact h
theorem Fut.ban {D : Addr} : Fut (G.ban D) β st H β' st' H' ↔ Fut G β st H β' st' H' := ⟨fun f => ⟨f.ext, f.there, f.stay⟩, fun f => ⟨f.ext, f.there, f.stay⟩⟩
/-- the list under way is lengthened -/
theorem grow {D : Addr} {H0 : Hp} (f : Fut G β st H0 β' st' H) (hD0 : H0 D = none) (rl : Rl (G.ban D) β' H st') {o o' : HO} (hD : H D = some o) (ho : ∀ vs, ¬ Rd (upd H D o') D (.tup vs)) :
    Fut G β st H0 β' st' (upd H D o') ∧ Rl (G.ban D) β' (upd H D o') st' ∧ Keep (Ban (G.ban D) β' st') H (Ban (G.ban D) β' st') (upd H D o') := by
  have nD : ¬ Own G β' st' D := (rl.o0 D (.inr rfl)).2.1
  have kk : Keep (Ban (G.ban D) β' st') H (Ban (G.ban D) β' st') (upd H D o') := fun b x hb n => by
    have e : b ≠ D := fun e => n (.inl (.inr e))
    exact ⟨by rw [upd_ne e]; exact hb, n⟩
  have nb : ∀ q xs, (∃ i : Nat, st'.obs[i]? = some (Ob.lst xs) ∧ β'[i]? = some q) → q ≠ D := fun q xs ⟨i, h1, h2⟩ e => nD (.inr ⟨i, xs, h1, e ▸ h2⟩)
  refine ⟨⟨f.ext, fun b hb => ?_, fun b x hb n => ?_⟩, ⟨rl.len, rl.nodup, fun q hq => ?_, fun i xs h => ?_, fun g hg => ?_, fun q hq => ?_⟩, kk⟩
  · by_cases e : b = D
    · rw [e, upd_same]; simp
    · rw [upd_ne e]; exact f.there b hb
  · have e : b ≠ D := ne_of_none hb hD0
    have z := f.stay b x hb n
    exact ⟨by rw [upd_ne e]; exact z.1, z.2⟩
  · by_cases e : q = D
    · rw [e, upd_same]; simp
    · rw [upd_ne e]; exact rl.trk q hq
  · obtain ⟨q, vs, a, b, c⟩ := rl.ob i xs h
    exact ⟨q, vs, a, by rw [upd_ne (nb q xs ⟨i, h, a⟩)]; exact b, RTs.mono kk _ _ c⟩
  · obtain ⟨⟨a, b⟩, c⟩ := rl.flo g hg
    have n1 : G.fa ≠ D := fun e => nD (.inl ⟨by rw [hg]; rfl, e.symm⟩)
    exact ⟨⟨by show upd H D o' G.fa = _; rw [upd_ne n1]; exact a, kk _ _ b.1 b.2⟩, c⟩
  · obtain ⟨a, b, c⟩ := rl.o0 q hq
    by_cases e : q = D
    · subst e
      exact ⟨by rw [upd_same]; simp, b, ho⟩
    · refine ⟨by rw [upd_ne e]; exact a, b, fun vs h => c vs ?_⟩
      unfold Rd at h ⊢
      rw [upd_ne e] at h; exact h
theorem Fut.notin {D : Addr} (f : Fut G β st H β' st' H') (h : D ∉ β) (t : H D ≠ none) : D ∉ β' := fun z => by
  obtain ⟨γ, rfl, h1⟩ := f.ext
  rcases List.mem_append.mp z with z | z
  · exact h z
  · exact t (h1 D z)
theorem no_tup {D : Addr} {xs : List V} (vs : List V) : ¬ Rd (upd H D (.lst xs)) D (.tup vs) := by
  rintro (h | ⟨o, h⟩) <;> (rw [upd_same] at h; cases h)
theorem n_lc {wi : TI} {g : TG} {tt : TT} {te : TE} {vs ws : List Nat} {mi : MI} {mt : MT} {c : MB} {m : ME} (hi : SimI G wi mi) (hg : ∀ D, SimG (G.ban D) ws g mt) (hsub : ∀ i ∈ ws, i ∈ vs)
    (hc : ∀ D, SimT (G.ban D) tt c) (he : ∀ D, SimE (G.ban D) te m) : SimN G (tLc wi g tt te vs) (lLc mi vs mt c m) := fun β H σ l st re Q q => by
  refine hi β H σ l st re _ (wpN_bind q fun J d H1 β1 st1 f1 rl1 itr q1 => ?_)
  have re1 := f1.re rl1 re
  intro D hD
  split at q1
  · rename_i hlen
    have hlen' : d.items.length ≤ sizeLine := of_decide_eq_true hlen
    cases eM : lcM d vs mt c m l d.items st1 with
    | no => rw [eM] at q1; exact q1.elim
    | ex e s => have z := lcM_noEx (d := d) (vs := vs) (t := mt) (c := c) (m := m) (l := l) d.items st1; rw [eM] at z; exact z.elim
    | ok ysE stE =>
      rw [eM] at q1
      have nO : ¬ G.O0 D := fun z => (rl1.o0 D z).1 hD
      have fD : Fut G β1 st1 H1 β1 st1 (upd H1 D (.lst [])) := Fut.new hD
      refine ⟨fun i mm H2 => mm = d.items.length - i ∧ ∃ β2 st2 acc ds ys, Fut G β1 st1 H1 β2 st2 H2 ∧ D ∉ β2 ∧ Rl (G.ban D) β2 H2 st2 ∧ RLoc (G.ban D) β2 (Ban (G.ban D) β2 st2) H2 σ l ∧ H2 D = some (.lst acc) ∧ RTs G.K (Ban (G.ban D) β2 st2) H2 acc ds ∧ ds.length ≤ i ∧ lcM d vs mt c m l (d.items.drop i) st2 = .ok ys stE ∧ ds ++ ys = ysE,
        ⟨_, rfl, β1, st1, [], [], ysE, fD, fun z => rl1.trk D z hD, rl1.ban hD no_tup, re1.lo.ban hD, upd_same, .nil, Nat.le_refl _, eM, rfl⟩, ?_⟩
      rintro i mm H2 ⟨rfl, β2, st2, acc, ds, ys, f2, hb, rl2, lo2, hDa, ra, hdl, eR, eY⟩
      have itr' := itr (fun p => G.O0 p ∨ p = D) (fun p h => h.elim .inl fun z => .inr (by rw [z]; exact hD)) β2 H2 st2 f2 rl2
      cases hd : d.items[i]? with
      | none =>
        have hl : d.items.length ≤ i := List.getElem?_eq_none_iff.mp hd
        rw [List.drop_eq_nil_of_le hl, lcM] at eR
        split at eR
        · rename_i hk
          refine .inl ⟨(itr' hk i).2 hl, ?_⟩
          cases eR
          rw [List.append_nil] at eY; subst eY
          have f3 : Fut G β1 st1 H1 β2 stE (cutH H2 D) := by
            refine ⟨f2.ext, fun b hb' => ?_, fun b x hb' n => ?_⟩
            · have e : b ≠ D := fun e => hb' (e ▸ hD)
              rw [cutH_ne e]; exact f2.there b hb'
            · have e : b ≠ D := ne_of_none hb' hD
              have z := f2.stay b x hb' n
              exact ⟨by rw [cutH_ne e]; exact z.1, z.2⟩
          have z := q1 (cutH H2 D) β2 f3 (rl2.unban hb nO) D acc (by unfold cutH; rw [if_pos rfl]) (RTs.mono cut_keep _ _ ra)
          rw [cutH_upd hDa] at z
          exact z
        · cases eR
      | some y =>
        obtain ⟨hlt, ey⟩ := List.getElem?_eq_some_iff.mp hd
        rw [List.drop_eq_getElem_cons hlt, ey, lcM] at eR
        split at eR
        · rename_i hk
          obtain ⟨hgo, hy⟩ := (itr' hk i).1 y hd
          refine .inr ⟨hgo, fun H3 => ∃ β2 st2 acc ds ys, Fut G β1 st1 H1 β2 st2 H3 ∧ D ∉ β2 ∧ Rl (G.ban D) β2 H3 st2 ∧ RLoc (G.ban D) β2 (Ban (G.ban D) β2 st2) H3 σ l ∧ H3 D = some (.lst acc) ∧ RTs G.K (Ban (G.ban D) β2 st2) H3 acc ds ∧ ds.length ≤ i + 1 ∧ lcM d vs mt c m l (d.items.drop (i + 1)) st2 = .ok ys stE ∧ ds ++ ys = ysE, fun H3 h => ⟨_, by omega, rfl, h⟩, fun x H3 hyl => ?_⟩
          obtain ⟨hcH, rx⟩ := hy x H3 hyl
          obtain ⟨f3, rl3⟩ := it_fut rl2 hcH
          have lo3 := f3.rloc lo2
          obtain ⟨l1, s1, e1, ok1⟩ := noX_bind (r := mt (.d y) (wipeL l vs) st2) ⟨ys, stE, eR⟩
          rw [e1] at eR
          refine hg D β2 H3 (wipe σ vs) (wipeL l vs) st2 ⟨rl3, wipe_re lo3 vs⟩ x (.d y) rx _ (wpR_isOk e1 fun σ4 H4 β4 f4 rl4 p4 => ?_)
          refine ⟨(wipe_same hsub p4.2.1 p4.2.2).trans (wipe_idem σ vs), ?_⟩
          have eR1 : ((c l1 s1).noX.bind fun b st => if b = true then (m l1 st).noX.bind fun u st => (match u with
              | .d y => (lcM d vs mt c m l (d.items.drop (i + 1)) st).bind fun ys st => .ok (y :: ys) st
              | _ => .no) else lcM d vs mt c m l (d.items.drop (i + 1)) st) = .ok ys stE := eR
          obtain ⟨b, s2, e2, ok2⟩ := noX_bind (r := c l1 s1) ⟨ys, stE, eR1⟩
          rw [e2] at eR1
          refine hc D β4 H4 σ4 l1 s1 ⟨rl4, p4.1⟩ _ (wpR_isOk e2 fun b' H5 β5 f5 rl5 p5 => ?_)
          cases (show b' = b from p5)
          have ff5 : Fut (G.ban D) β2 st2 H2 β5 s2 H5 := (f3.trans f4).trans f5
          have hD5 : H5 D = some (.lst acc) := (ff5.stay D _ hDa (rl2.o0 D (.inr rfl)).2.1).1
          have eR2 : (if b = true then (m l1 s2).noX.bind fun u st => (match u with
              | .d y => (lcM d vs mt c m l (d.items.drop (i + 1)) st).bind fun ys st => .ok (y :: ys) st
              | _ => .no) else lcM d vs mt c m l (d.items.drop (i + 1)) s2) = .ok ys stE := eR1
          cases b with
          | false =>
            rw [if_neg Bool.false_ne_true] at eR2
            show (if false = true then _ else _)
            rw [if_neg Bool.false_ne_true]
            exact ⟨β5, s2, acc, ds, ys, f2.trans (Fut.ban.mp ff5), ff5.notin hb (by rw [hDa]; simp), rl5, ff5.rloc lo2, hD5, ff5.rts ra, by omega, eR2, eY⟩
          | true =>
            rw [if_pos rfl] at eR2
            show (if true = true then _ else _)
            rw [if_pos rfl]
            obtain ⟨w, s3, e3, ok3⟩ := noX_bind (r := m l1 s2) ⟨ys, stE, eR2⟩
            rw [e3] at eR2
            refine he D β5 H5 σ4 l1 s2 ⟨rl5, f5.rloc p4.1⟩ _ (wpR_isOk e3 fun yv H6 β6 f6 rl6 p6 => ?_)
            have ff6 : Fut (G.ban D) β2 st2 H2 β6 s3 H6 := ff5.trans f6
            have hD6 : H6 D = some (.lst acc) := (ff6.stay D _ hDa (rl2.o0 D (.inr rfl)).2.1).1
            cases w with
            | d z =>
              have eR3 : ((lcM d vs mt c m l (d.items.drop (i + 1)) s3).bind fun ys st => .ok (z :: ys) st) = .ok ys stE := eR2
              obtain ⟨ys', s4, e4, _⟩ := bind_isOk (r := lcM d vs mt c m l (d.items.drop (i + 1)) s3) ⟨ys, stE, eR3⟩
              rw [e4] at eR3
              cases eR3
              have ra6 := ff6.rts ra
              refine ⟨acc, hD6, by rw [ra.len]; omega, ?_⟩
              obtain ⟨f7, rl7, k7⟩ := grow (o' := .lst (acc ++ [yv])) (f2.trans (Fut.ban.mp ff6)) hD rl6 hD6 no_tup
              refine ⟨β6, s3, acc ++ [yv], ds ++ [z], ys', f7, ff6.notin hb (by rw [hDa]; simp), rl7, ?_, upd_same, ?_, by simp; omega, e4, by rw [List.append_assoc]; exact eY⟩
              · have lo6 := ff6.rloc lo2
                refine ⟨lo6.len, fun j w e => ?_⟩
                obtain ⟨v, h1, h2⟩ := lo6.at_ j w e
                refine ⟨v, h1, ?_⟩
                cases w with
                | d x => exact RT.mono k7 x v h2
                | ref i => exact h2
                | flow => exact h2
                | scr ns =>
                  obtain ⟨p, z1, z2⟩ := h2
                  exact ⟨p, z1, z2.imp (fun z => k7.rd z) id⟩
              · exact (RTs.mono k7 _ _ ra6).append (.cons (RT.mono k7 z yv p6) .nil)
            | ref k => cases eR2
            | flow => cases eR2
            | scr k => cases eR2
        · cases eR
  · exact q1.elim
end
end NW

namespace NW
open PySem PySem.Spec PyProof.Rows L2
section
variable {G : Gx} {β β' : List Addr} {st st' : Sto} {H H' : Hp} {v : V} {u : U} {σ σ' : L2.St} {l l' : Loc} {D : Ends}
/-! ### builtins -/
def SimC (G : Gx) (r : List V → Hp → VK → Prop) (f : List U → Sto → Res U) : Prop := ∀ β H σ l st, Re G β H σ l st → ∀ xs us Q, PUs G β st H xs us → wpR G β H σ st (PU G) (f us st) Q → r xs H Q
def SimCN (G : Gx) (r : List V → Hp → VK → Prop) (f : List U → Sto → Res (List PyData)) : Prop := ∀ β H σ l st, Re G β H σ l st → ∀ xs us Q, PUs G β st H xs us → wpN G β H σ st (f us st) Q → r xs H Q
def eCB (f : List U → Sto → Res U) (a : MA) : ME := fun l st => (a l st).bind f
def lCB (f : List U → Sto → Res (List PyData)) (a : MA) : ML := fun l st => (a l st).bind f
theorem s_cb {r : List V → Hp → VK → Prop} {f : List U → Sto → Res U} {ta : TA} {a : MA} (hr : SimC G r f) (ha : SimA G ta a) : SimE G (tCB r ta) (eCB f a) := fun β H σ l st re Q h =>
  ha β H σ l st re _ (wpR_bind h fun vs us H1 β1 st1 f1 rl1 p1 h1 => hr β1 H1 σ l st1 (f1.re rl1 re) vs us Q p1 h1)
theorem n_cb {r : List V → Hp → VK → Prop} {f : List U → Sto → Res (List PyData)} {ta : TA} {a : MA} (hr : SimCN G r f) (ha : SimA G ta a) : SimN G (tCB r ta) (lCB f a) := fun β H σ l st re Q h =>
  ha β H σ l st re _ (wpN_bind h fun vs us H1 β1 st1 f1 rl1 p1 h1 => hr β1 H1 σ l st1 (f1.re rl1 re) vs us Q p1 h1)
theorem one_u {vs : List V} {u : U} (p : PUs G β st H vs [u]) : ∃ v, vs = [v] ∧ RU G β (Ban G β st) H v u := by
  have p' : Paired (fun v u => RU G β (Ban G β st) H v u) vs [u] := p
  cases p' with
  | cons r q => cases q; exact ⟨_, rfl, r⟩
theorem two_u {vs : List V} {u w : U} (p : PUs G β st H vs [u, w]) : ∃ v x, vs = [v, x] ∧ RU G β (Ban G β st) H v u ∧ RU G β (Ban G β st) H x w := by
  have p' : Paired (fun v u => RU G β (Ban G β st) H v u) vs [u, w] := p
  cases p' with
  | cons r q =>
    cases q with
    | cons r2 q2 => cases q2; exact ⟨_, _, rfl, r, r2⟩
def cLen : List U → Sto → Res U := fun us st => match us with
  | [.scr ns] => .ok (.d (.int ns.length)) st
  | [.d (.str z)] => if lenOk z.length = true then .ok (.d (.int z.length)) st else .no
  | [u] => (match seqOf st u with
    | some xs => .ok (.d (.int xs.length)) st
    | none => .no)
  | _ => .no
theorem c_len : SimC G (fun xs H Q => ∃ x n, xs = [x] ∧ LenV G.K x H n ∧ Q (.int n) H) cLen := fun β H σ l st re xs us Q p h => by
  unfold cLen at h
  split at h
  · rename_i ns
    obtain ⟨v, rfl, r⟩ := one_u p
    obtain ⟨q, rfl, s⟩ := r
    exact ⟨_, (ns.map V.int).length, rfl, .inl ⟨_, s.q, rfl⟩, by rw [List.length_map]; exact wpR_d re.rl (.int _) h⟩
  · rename_i z
    obtain ⟨v, rfl, r⟩ := one_u p
    cases ru_str r
    split at h
    · rename_i q
      exact ⟨_, z.length, rfl, ⟨of_decide_eq_true q, rfl⟩, wpR_d re.rl (.int _) h⟩
    · exact h.elim
  · obtain ⟨v, rfl, r⟩ := one_u p
    split at h
    · rename_i xs e
      obtain ⟨q, vs, rfl, s, r'⟩ := seq_q re.rl r e
      refine ⟨_, vs.length, rfl, ?_, ?_⟩
      · rcases s with s | s
        · exact .inl ⟨vs, s, rfl⟩
        · exact .inr ⟨vs, s, rfl⟩
      · rw [r'.len]; exact wpR_d re.rl (.int _) h
    · exact h.elim
  · exact h.elim
def cAbs : List U → Sto → Res U := fun us st => match us with
  | [.d (.int i)] => .ok (.d (.int (if i < 0 then -i else i))) st
  | _ => .no
theorem c_abs : SimC G (fun xs H Q => ∃ i, xs = [.int i] ∧ Q (.int (if i < 0 then -i else i)) H) cAbs := fun β H σ l st re xs us Q p h => by
  unfold cAbs at h
  split at h
  · exact ⟨_, int1 p, wpR_d re.rl (.int _) h⟩
  · exact h.elim
def cInt : List U → Sto → Res U := fun us st => match us with
  | [.d (.int i)] => .ok (.d (.int i)) st
  | [.d (.bool k)] => .ok (.d (.int (if k then 1 else 0))) st
  | _ => .no
theorem c_int : SimC G (fun xs H Q => (∃ i, xs = [.int i] ∧ Q (.int i) H) ∨ ∃ k, xs = [.bl k] ∧ Q (.int (if k then 1 else 0)) H) cInt := fun β H σ l st re xs us Q p h => by
  unfold cInt at h
  split at h
  · exact .inl ⟨_, int1 p, wpR_d re.rl (.int _) h⟩
  · obtain ⟨v, rfl, r⟩ := one_u p
    cases ru_bool r
    exact .inr ⟨_, rfl, wpR_d re.rl (.int _) h⟩
  · exact h.elim
def cMax2 : List U → Sto → Res U := fun us st => match us with
  | [.d (.int i), .d (.int j)] => .ok (.d (.int (if j > i then j else i))) st
  | _ => .no
theorem c_max2 : SimC G (fun xs H Q => ∃ i j, xs = [.int i, .int j] ∧ Q (.int (if j > i then j else i)) H) cMax2 := fun β H σ l st re xs us Q p h => by
  unfold cMax2 at h
  split at h
  · exact ⟨_, _, int2 p, wpR_d re.rl (.int _) h⟩
  · exact h.elim
def cMin2 : List U → Sto → Res U := fun us st => match us with
  | [.d (.int i), .d (.int j)] => .ok (.d (.int (if j < i then j else i))) st
  | _ => .no
theorem c_min2 : SimC G (fun xs H Q => ∃ i j, xs = [.int i, .int j] ∧ Q (.int (if j < i then j else i)) H) cMin2 := fun β H σ l st re xs us Q p h => by
  unfold cMin2 at h
  split at h
  · exact ⟨_, _, int2 p, wpR_d re.rl (.int _) h⟩
  · exact h.elim
/-- ints, bools of a list -/
def intsOf : List PyData → Option (List Int)
  | [] => some []
  | .int i :: r => (intsOf r).map (i :: ·)
  | _ :: _ => none
def boolsOf : List PyData → Option (List Bool)
  | [] => some []
  | .bool i :: r => (boolsOf r).map (i :: ·)
  | _ :: _ => none
theorem intsOf_eq : ∀ {xs : List PyData} {ns : List Int}, intsOf xs = some ns → xs = ns.map PyData.int
  | [], ns, h => by cases h; rfl
  | .int i :: r, ns, h => by
    have h' : (intsOf r).map (i :: ·) = some ns := h
    cases e : intsOf r with
    | none => rw [e] at h'; cases h'
    | some ms => rw [e] at h'; cases h'; rw [intsOf_eq e]; rfl
  | .none :: _, _, h => by cases h
  | .bool _ :: _, _, h => by cases h
  | .str _ :: _, _, h => by cases h
  | .list _ :: _, _, h => by cases h
  | .tuple _ :: _, _, h => by cases h
  | .dict _ :: _, _, h => by cases h
theorem boolsOf_eq : ∀ {xs : List PyData} {ns : List Bool}, boolsOf xs = some ns → xs = ns.map PyData.bool
  | [], ns, h => by cases h; rfl
  | .bool i :: r, ns, h => by
    have h' : (boolsOf r).map (i :: ·) = some ns := h
    cases e : boolsOf r with
    | none => rw [e] at h'; cases h'
    | some ms => rw [e] at h'; cases h'; rw [boolsOf_eq e]; rfl
  | .none :: _, _, h => by cases h
  | .int _ :: _, _, h => by cases h
  | .str _ :: _, _, h => by cases h
  | .list _ :: _, _, h => by cases h
  | .tuple _ :: _, _, h => by cases h
  | .dict _ :: _, _, h => by cases h
@[simp] theorem intsOf_map : ∀ (ns : List Int), intsOf (ns.map PyData.int) = some ns
  | [] => rfl
  | n :: ns => by show (intsOf (ns.map PyData.int)).map (n :: ·) = _; rw [intsOf_map ns]; rfl
@[simp] theorem boolsOf_map : ∀ (ns : List Bool), boolsOf (ns.map PyData.bool) = some ns
  | [] => rfl
  | n :: ns => by show (boolsOf (ns.map PyData.bool)).map (n :: ·) = _; rw [boolsOf_map ns]; rfl
def cInts (f : List Int → Option PyData) : List U → Sto → Res U := fun us st => match us with
  | [u] => (match (listOf st u).bind intsOf with
    | some ns => (match f ns with
      | some x => .ok (.d x) st
      | none => .no)
    | none => .no)
  | _ => .no
def maxI : List Int → Option Int
  | [] => none
  | x :: xs => some (xs.foldl (fun a b => if b > a then b else a) x)
def minI : List Int → Option Int
  | [] => none
  | x :: xs => some (xs.foldl (fun a b => if b < a then b else a) x)
theorem foldl_max (xs : List Int) : ∀ a, a ≤ xs.foldl (fun a b => if b > a then b else a) a ∧ ∀ y ∈ xs, y ≤ xs.foldl (fun a b => if b > a then b else a) a := by
  induction xs with
  | nil => intro a; simp
  | cons x xs ih =>
    intro a
    obtain ⟨h1, h2⟩ := ih (if x > a then x else a)
    rw [List.foldl_cons]
    have h3 : a ≤ (if x > a then x else a) ∧ x ≤ (if x > a then x else a) := by split <;> omega
    refine ⟨by omega, fun y hy => ?_⟩
    rcases List.mem_cons.mp hy with rfl | hy
    · omega
    · exact h2 y hy
theorem foldl_min (xs : List Int) : ∀ a, xs.foldl (fun a b => if b < a then b else a) a ≤ a ∧ ∀ y ∈ xs, xs.foldl (fun a b => if b < a then b else a) a ≤ y := by
  induction xs with
  | nil => intro a; simp
  | cons x xs ih =>
    intro a
    obtain ⟨h1, h2⟩ := ih (if x < a then x else a)
    rw [List.foldl_cons]
    have h3 : (if x < a then x else a) ≤ a ∧ (if x < a then x else a) ≤ x := by split <;> omega
    refine ⟨by omega, fun y hy => ?_⟩
    rcases List.mem_cons.mp hy with rfl | hy
    · omega
    · exact h2 y hy
theorem foldl_max_mem (xs : List Int) : ∀ a, xs.foldl (fun a b => if b > a then b else a) a = a ∨ xs.foldl (fun a b => if b > a then b else a) a ∈ xs := by
  induction xs with
  | nil => intro a; simp
  | cons x xs ih =>
    intro a
    rw [List.foldl_cons]
    rcases ih (if x > a then x else a) with h | h
    · rw [h]; split
      · right; simp
      · left; rfl
    · right; simp [h]
theorem foldl_min_mem (xs : List Int) : ∀ a, xs.foldl (fun a b => if b < a then b else a) a = a ∨ xs.foldl (fun a b => if b < a then b else a) a ∈ xs := by
  induction xs with
  | nil => intro a; simp
  | cons x xs ih =>
    intro a
    rw [List.foldl_cons]
    rcases ih (if x < a then x else a) with h | h
    · rw [h]; split
      · right; simp
      · left; rfl
    · right; simp [h]
def cMaxL : List U → Sto → Res U := cInts fun ns => (maxI ns).map PyData.int
def cMinL : List U → Sto → Res U := cInts fun ns => (minI ns).map PyData.int
def cSum : List U → Sto → Res U := cInts fun ns => some (.int ns.sum)
theorem ints_q (rl : Rl G β H st) (h : RU G β (Ban G β st) H v u) {ns : List Int} (e : (listOf st u).bind intsOf = some ns) : ∃ p, v = .ref p ∧ SqL G.K H p (ns.map V.int) := by
  cases q : listOf st u with
  | none => rw [q] at e; cases e
  | some xs =>
    rw [q] at e
    have e2 := intsOf_eq (show intsOf xs = some ns from e)
    subst e2
    obtain ⟨p, vs, a, b, c⟩ := list_q rl h q
    rw [c.ints] at b
    exact ⟨p, a, b⟩
theorem bools_q (rl : Rl G β H st) (h : RU G β (Ban G β st) H v u) {ns : List Bool} (e : (listOf st u).bind boolsOf = some ns) : ∃ p, v = .ref p ∧ SqL G.K H p (ns.map V.bl) := by
  cases q : listOf st u with
  | none => rw [q] at e; cases e
  | some xs =>
    rw [q] at e
    have e2 := boolsOf_eq (show boolsOf xs = some ns from e)
    subst e2
    obtain ⟨p, vs, a, b, c⟩ := list_q rl h q
    rw [c.bools] at b
    exact ⟨p, a, b⟩
theorem c_maxL : SimC G (rMax G.K) cMaxL := fun β H σ l st re xs us Q p h => by
  unfold cMaxL cInts at h
  split at h
  · obtain ⟨v, rfl, r⟩ := one_u p
    split at h
    · rename_i ns e
      obtain ⟨q, rfl, s⟩ := ints_q re.rl r e
      cases ns with
      | nil => exact h.elim
      | cons n ns =>
        refine ⟨q, _, rfl, s, by simp, fun m hm hle => ?_⟩
        have e1 : m = ns.foldl (fun a b => if b > a then b else a) n := by
          have a1 := foldl_max ns n
          have a2 := foldl_max_mem ns n
          have b1 : ns.foldl (fun a b => if b > a then b else a) n ≤ m := hle _ (by rcases a2 with z | z <;> simp [z])
          rcases List.mem_cons.mp hm with z | z
          · omega
          · have := a1.2 m z; omega
        rw [e1]; exact wpR_d re.rl (.int _) h
    · exact h.elim
  · exact h.elim
theorem c_minL : SimC G (rMin G.K) cMinL := fun β H σ l st re xs us Q p h => by
  unfold cMinL cInts at h
  split at h
  · obtain ⟨v, rfl, r⟩ := one_u p
    split at h
    · rename_i ns e
      obtain ⟨q, rfl, s⟩ := ints_q re.rl r e
      cases ns with
      | nil => exact h.elim
      | cons n ns =>
        refine ⟨q, _, rfl, s, by simp, fun m hm hle => ?_⟩
        have e1 : m = ns.foldl (fun a b => if b < a then b else a) n := by
          have a1 := foldl_min ns n
          have a2 := foldl_min_mem ns n
          have b1 : m ≤ ns.foldl (fun a b => if b < a then b else a) n := hle _ (by rcases a2 with z | z <;> simp [z])
          rcases List.mem_cons.mp hm with z | z
          · omega
          · have := a1.2 m z; omega
        rw [e1]; exact wpR_d re.rl (.int _) h
    · exact h.elim
  · exact h.elim
theorem c_sum : SimC G (rSum G.K) cSum := fun β H σ l st re xs us Q p h => by
  unfold cSum cInts at h
  split at h
  · obtain ⟨v, rfl, r⟩ := one_u p
    split at h
    · rename_i ns e
      obtain ⟨q, rfl, s⟩ := ints_q re.rl r e
      exact ⟨q, ns, rfl, s, wpR_d re.rl (.int _) h⟩
    · exact h.elim
  · exact h.elim
def cBools (f : List Bool → Bool) : List U → Sto → Res U := fun us st => match us with
  | [u] => (match (listOf st u).bind boolsOf with
    | some ns => .ok (.d (.bool (f ns))) st
    | none => .no)
  | _ => .no
def cAll : List U → Sto → Res U := cBools fun ns => ns.all id
def cAny : List U → Sto → Res U := cBools fun ns => ns.any id
theorem c_all : SimC G (rAll G.K) cAll := fun β H σ l st re xs us Q p h => by
  unfold cAll cBools at h
  split at h
  · obtain ⟨v, rfl, r⟩ := one_u p
    split at h
    · rename_i ns e
      obtain ⟨q, rfl, s⟩ := bools_q re.rl r e
      exact ⟨q, ns, rfl, s, wpR_d re.rl (.bl _) h⟩
    · exact h.elim
  · exact h.elim
theorem c_any : SimC G (rAny G.K) cAny := fun β H σ l st re xs us Q p h => by
  unfold cAny cBools at h
  split at h
  · obtain ⟨v, rfl, r⟩ := one_u p
    split at h
    · rename_i ns e
      obtain ⟨q, rfl, s⟩ := bools_q re.rl r e
      exact ⟨q, ns, rfl, s, wpR_d re.rl (.bl _) h⟩
    · exact h.elim
  · exact h.elim
/-- list(x), tuple(x) -/
def cListOf : List U → Sto → Res (List PyData) := fun us st => match us with
  | [.scr ns] => .ok (ns.map .int) st
  | [u] => (match seqOf st u with
    | some xs => .ok xs st
    | none => .no)
  | _ => .no
theorem c_listOf : SimCN G (fun xs H Q => ∃ p ys, xs = [.ref p] ∧ (SqL G.K H p ys ∨ SqT G.K H p ys) ∧ ∀ l, H l = none → Q (.ref l) (upd H l (.lst ys))) cListOf := fun β H σ l st re xs us Q p h => by
  unfold cListOf at h
  split at h
  · rename_i ns
    obtain ⟨v, rfl, r⟩ := one_u p
    obtain ⟨q, rfl, s⟩ := r
    exact ⟨q, _, rfl, .inl s.q, fun z hz => h H β Fut.refl re.rl z _ hz (RTs.ofInts ns)⟩
  · obtain ⟨v, rfl, r⟩ := one_u p
    split at h
    · rename_i ys e
      obtain ⟨q, vs, rfl, s, r'⟩ := seq_q re.rl r e
      exact ⟨q, vs, rfl, s, fun z hz => h H β Fut.refl re.rl z vs hz r'⟩
    · exact h.elim
  · exact h.elim
def cTupOf : List U → Sto → Res U := fun us st => match us with
  | [.d (.tuple xs)] => .ok (.d (.tuple xs)) st
  | [u] => (match listOf st u with
    | some xs => .ok (.d (.tuple xs)) st
    | none => .no)
  | _ => .no
theorem c_tupOf : SimC G (fun xs H Q => ∃ p ys, xs = [.ref p] ∧ ((SqL G.K H p ys ∧ ∀ l, H l = none → Q (.ref l) (upd H l (.tup ys))) ∨ (SqT G.K H p ys ∧ Q (.ref p) H))) cTupOf := fun β H σ l st re xs us Q p h => by
  unfold cTupOf at h
  split at h
  · rename_i ys
    obtain ⟨v, rfl, r⟩ := one_u p
    obtain ⟨q, vs, rfl, s, r'⟩ := tup_q r (xs := ys) rfl
    exact ⟨q, vs, rfl, .inr ⟨s, wpR_u re.rl r h⟩⟩
  · obtain ⟨v, rfl, r⟩ := one_u p
    split at h
    · rename_i ys e
      obtain ⟨q, vs, rfl, s, r'⟩ := list_q re.rl r e
      refine ⟨q, vs, rfl, .inl ⟨s, fun z hz => ?_⟩⟩
      obtain ⟨f4, rl4, rt⟩ := new_tup re.rl hz r'
      exact h _ _ β f4 rl4 rt
    · exact h.elim
  · exact h.elim
/-- isinstance -/
def tyName : PyData → String
  | .none => "NoneType"
  | .bool _ => "bool"
  | .int _ => "int"
  | .str _ => "str"
  | .list _ => "list"
  | .tuple _ => "tuple"
  | .dict _ => "dict"
def isiT (x : PyData) (T : String) : Bool := tyName x == T || (T == "int" && tyName x == "bool")
def tyOk (T : String) : Bool := ["int", "bool", "list", "tuple", "str"].contains T
theorem kit5 : ∀ n ∈ (["NoneType", "bool", "int", "str", "list", "tuple"] : List String), ∀ T ∈ (["int", "bool", "list", "tuple", "str"] : List String), kitB n T = some (n == T || (T == "int" && n == "bool")) := by decide +kernel
theorem isi_kit {K : PySem.W.Frag} {x : PyData} {T : String} (h : tyOk T = true) (hd : tyName x ≠ "dict") : PySem.W.kitOne K (.type (tyName x)) (.type T) = some (isiT x T) := by
  apply kit_ty
  refine kit5 _ ?_ T (List.contains_iff_mem.mp h)
  cases x with
  | dict k => exact absurd rfl hd
  | _ => simp [tyName]
theorem tyX (rl : Rl G β H st) (h : RU G β (Ban G β st) H v u) {x : PyData} (e : toTree st u = some x) : TyX G.K H v (.type (tyName x)) ∧ tyName x ≠ "dict" := by
  cases u with
  | d y =>
    cases e
    cases h with
    | non => exact ⟨.base .non, by decide⟩
    | bl b => exact ⟨.base (.bl b), by simp [tyName]⟩
    | int i => exact ⟨.base (.int i), by simp [tyName]⟩
    | str z => exact ⟨.base (.str z), by simp [tyName]⟩
    | lst a b => exact ⟨.base (.lst a.1), by show "list" ≠ "dict"; decide⟩
    | tup a b =>
      refine ⟨?_, by show "tuple" ≠ "dict"; decide⟩
      rcases a with ⟨a | ⟨o, a⟩, _⟩ | ⟨o, its, n, hk, hc, _⟩
      · exact .base (.tup a)
      · exact .fTuple a
      · exact .kTuple hk hc
  | flow => cases e
  | scr ns => cases e
  | ref i =>
    simp only [toTree] at e
    split at e
    · rename_i ys hy
      cases e
      obtain ⟨p, h1, rfl⟩ := h
      obtain ⟨q, vs, a, b, c⟩ := rl.ob i ys hy
      rw [h1] at a; cases a
      exact ⟨.base (.lst b), by show "list" ≠ "dict"; decide⟩
    · cases e
def eIsi (m : ME) (T : String) : ME := fun l st => (m l st).bind fun u st => match toTree st u with
  | some x => if tyOk T = true then .ok (.d (.bool (isiT x T))) st else .no
  | none => .no
theorem s_isi {t : TE} {m : ME} {T : String} (h : SimE G t m) : SimE G (tCB (rIsi G.K) (tCons t (tCons (tC (.ty T)) tNil))) (eIsi m T) := fun β H σ l st re Q q => by
  refine h β H σ l st re _ (wpR_bind q fun v u H1 β1 st1 f1 rl1 p1 h1 => ?_)
  show ∃ (x c : V) (t u : Value) (b : Bool), [v, .ty T] = [x, c] ∧ _
  split at h1
  · rename_i x e
    split at h1
    · rename_i hT
      obtain ⟨ty, nd⟩ := tyX rl1 p1 e
      exact ⟨v, .ty T, _, .type T, isiT x T, rfl, .ty T, ty, isi_kit hT nd, wpR_d rl1 (.bl _) h1⟩
    · exact h1.elim
  · exact h1.elim
def tTys : List String → TA
  | [] => tNil
  | T :: r => tCons (tC (.ty T)) (tTys r)
theorem tTys_run : ∀ (Ts : List String) (σ : L2.St) (H : Hp) (Q : List V → Hp → Prop), Q (Ts.map V.ty) H → tTys Ts σ H Q
  | [], _, _, _, h => h
  | T :: r, σ, H, Q, h => tTys_run r σ H (fun xs H2 => Q (.ty T :: xs) H2) h
def eIsiT (m : ME) (Ts : List String) : ME := fun l st => (m l st).bind fun u st => match toTree st u with
  | some x => if (Ts.all tyOk && decide (Ts.length ≤ 8)) = true then .ok (.d (.bool (Ts.any (isiT x)))) st else .no
  | none => .no
theorem kitAnyT {K : PySem.W.Frag} {x : PyData} (nd : tyName x ≠ "dict") : ∀ {Ts : List String}, Ts.all tyOk = true → PySem.W.kitAny K (.type (tyName x)) (Ts.map Value.type) = some (Ts.any (isiT x))
  | [], _ => kitAny_nil
  | T :: r, h => by
    rw [List.all_cons, Bool.and_eq_true] at h
    have ih := kitAnyT (K := K) nd h.2
    rw [List.any_cons]
    refine kitAny_cons (isi_kit h.1 nd) (fun e => ?_) fun e => ?_
    · rw [e, Bool.false_or]; exact ih
    · rw [e, Bool.true_or]
theorem cls_tys : ∀ (Ts : List String), Paired ClsV (Ts.map V.ty) (Ts.map Value.type)
  | [] => .nil
  | T :: r => .cons (.ty T) (cls_tys r)
theorem s_isiT {t : TE} {m : ME} {Ts : List String} (h : SimE G t m) : SimE G (tCB (rIsiT G.K) (tCons t (tCons (tTup (tTys Ts)) tNil))) (eIsiT m Ts) := fun β H σ l st re Q q => by
  refine h β H σ l st re _ (wpR_bind q fun v u H1 β1 st1 f1 rl1 p1 h1 => ?_)
  split at h1
  · rename_i x e
    split at h1
    · rename_i hT
      rw [Bool.and_eq_true] at hT
      obtain ⟨ty, nd⟩ := tyX rl1 p1 e
      refine tTys_run Ts σ H1 _ ⟨by rw [List.length_map]; exact Nat.le_trans (of_decide_eq_true hT.2) (by rw [sizeLine_eq]; decide), fun p hp => ?_⟩
      have f2 : Fut G β1 st1 H1 β1 st1 (upd H1 p (.tup (Ts.map V.ty))) := Fut.new hp
      obtain ⟨ty2, _⟩ := tyX (rl1.new hp) (f2.ru p1) e
      exact ⟨v, p, Ts.map V.ty, _, Ts.map Value.type, _, rfl, upd_same, cls_tys Ts, ty2, kitAnyT nd hT.1, h1 _ _ β1 f2 (rl1.new hp) (.bl _)⟩
    · exact h1.elim
  · exact h1.elim
/-! ### list methods -/
def eMeth (f : U → List U → Sto → Res U) (o : ME) (a : MA) : ME := fun l st => (o l st).bind fun x st => (a l st).bind fun us st => f x us st
def SimM (G : Gx) (T : String) (r : V → List V → Hp → VK → Prop) (f : U → List U → Sto → Res U) : Prop := ∀ β H σ l st, Re G β H σ l st → ∀ x u xs us Q, RU G β (Ban G β st) H x u → PUs G β st H xs us → wpR G β H σ st (PU G) (f u us st) Q → r x xs H Q
/-- an own list stays at its place through the arguments -/
def isLst (st : Sto) (u : U) : Bool := (listOf st u).isSome
theorem tyV_l (rl : Rl G β H st) (h : RU G β (Ban G β st) H v u) (e : isLst st u = true) : tyV G.K "list" v H := by
  unfold isLst at e
  obtain ⟨xs, e⟩ := Option.isSome_iff_exists.mp e
  obtain ⟨p, vs, rfl, s, _⟩ := list_q rl h e
  exact .inl ⟨rfl, vs, s⟩
def eMethL (f : U → List U → Sto → Res U) (o : ME) (a : MA) : ME := fun l st => (o l st).bind fun x st => if isLst st x = true then (a l st).bind fun us st => f x us st else .no
theorem s_methL {r : V → List V → Hp → VK → Prop} {f : U → List U → Sto → Res U} {to : TE} {ta : TA} {o : ME} {a : MA} (hr : SimM G "list" r f) (ho : SimE G to o) (ha : SimA G ta a) : SimE G (tBM G.K "list" r to ta) (eMethL f o a) := fun β H σ l st re Q h => by
  refine ho β H σ l st re _ (wpR_bind h fun v x H1 β1 st1 f1 rl1 p1 h1 => ?_)
  have re1 := f1.re rl1 re
  split at h1
  · rename_i q
    refine ⟨tyV_l rl1 p1 q, ha β1 H1 σ l st1 re1 _ (wpR_bind h1 fun w y H2 β2 st2 f2 rl2 p2 h2 => ?_)⟩
    exact hr β2 H2 σ l st2 (f2.re rl2 re1) v x w y Q (f2.ru p1) p2 h2
  · exact h1.elim
theorem s_methL0 {r : V → List V → Hp → VK → Prop} {f : U → List U → Sto → Res U} {to : TE} {o : ME} (hr : SimM G "list" r f) (ho : SimE G to o) : SimE G (tBM0 G.K "list" r to) (eMethL f o aNil) := fun β H σ l st re Q h => by
  refine ho β H σ l st re _ (wpR_bind h fun v x H1 β1 st1 f1 rl1 p1 h1 => ?_)
  have re1 := f1.re rl1 re
  split at h1
  · rename_i q
    exact ⟨tyV_l rl1 p1 q, hr β1 H1 σ l st1 re1 v x [] [] Q p1 .nil h1⟩
  · exact h1.elim
def ownL (st : Sto) : U → Option (Nat × List PyData)
  | .ref i => match st.obs[i]? with | some (.lst xs) => some (i, xs) | _ => none
  | _ => none
theorem own_q (rl : Rl G β H st) (h : RU G β (Ban G β st) H v u) {i : Nat} {xs : List PyData} (e : ownL st u = some (i, xs)) : ∃ p vs, v = .ref p ∧ H p = some (.lst vs) ∧ RTs G.K (Ban G β st) H vs xs ∧ st.obs[i]? = some (.lst xs) ∧ β[i]? = some p := by
  unfold ownL at e
  split at e
  · rename_i j
    split at e
    · rename_i hy
      cases e
      obtain ⟨p, h1, rfl⟩ := h
      obtain ⟨q, vs, a, b, c⟩ := rl.ob _ _ hy
      rw [h1] at a; cases a
      exact ⟨p, vs, rfl, b, c, hy, h1⟩
    · cases e
  · cases e
def mAppend : U → List U → Sto → Res U := fun o us st => match ownL st o, us with
  | some (i, xs), [.d y] => if decide (xs.length < sizeLine) = true then .ok (.d .none) (st.put i (xs ++ [y])) else .no
  | _, _ => .no
theorem m_append : SimM G "list" rAppend mAppend := fun β H σ l st re x u xs us Q hx p h => by
  unfold mAppend at h
  split at h
  · rename_i i ys y e
    split at h
    · rename_i q
      obtain ⟨a, vs, rfl, h1, h2, h3, h4⟩ := own_q re.rl hx e
      obtain ⟨w, rfl, r⟩ := one_u p
      refine ⟨a, vs, w, rfl, rfl, h1, by rw [h2.len]; exact of_decide_eq_true q, ?_⟩
      obtain ⟨f, rl⟩ := put_own re.rl h3 h4 (h2.append (.cons r .nil))
      exact h _ _ β f rl .non
    · exact h.elim
  · exact h.elim
def mExtend : U → List U → Sto → Res U := fun o us st => match ownL st o, us with
  | some (i, xs), [u] => (match listOf st u with
    | some ys => if lenOk (xs.length + ys.length) = true then .ok (.d .none) (st.put i (xs ++ ys)) else .no
    | none => .no)
  | _, _ => .no
theorem m_extend : SimM G "list" rExtend mExtend := fun β H σ l st re x u xs us Q hx p h => by
  unfold mExtend at h
  split at h
  · rename_i i ys y e
    split at h
    · rename_i zs e2
      split at h
      · rename_i q
        obtain ⟨a, vs, rfl, h1, h2, h3, h4⟩ := own_q re.rl hx e
        obtain ⟨w, rfl, r⟩ := one_u p
        obtain ⟨b, ws, rfl, k1, k2⟩ := list_h re.rl r e2
        refine ⟨a, b, vs, ws, rfl, rfl, h1, k1, by rw [h2.len, k2.len]; exact of_decide_eq_true q, ?_⟩
        obtain ⟨f, rl⟩ := put_own re.rl h3 h4 (h2.append k2)
        exact h _ _ β f rl .non
      · exact h.elim
    · exact h.elim
  · exact h.elim
theorem RTs.dropLast {B : Addr → Prop} {K : PySem.W.Frag} {xs : List PyData} {vs : List V} (r : RTs K B H vs xs) : RTs K B H vs.dropLast xs.dropLast := by
  rw [List.dropLast_eq_take, List.dropLast_eq_take, r.len]
  exact r.take _
def mPop : U → List U → Sto → Res U := fun o us st => match ownL st o, us with
  | some (i, xs), [] => (match xs[xs.length - 1]? with
    | some y => .ok (.d y) (st.put i xs.dropLast)
    | none => .no)
  | _, _ => .no
theorem m_pop : SimM G "list" rPop mPop := fun β H σ l st re x u xs us Q hx p h => by
  unfold mPop at h
  split at h
  · rename_i i ys e
    split at h
    · rename_i y e2
      obtain ⟨a, vs, rfl, h1, h2, h3, h4⟩ := own_q re.rl hx e
      obtain ⟨w, k1, k2⟩ := h2.get e2
      have p' : Paired (fun v u => RU G β (Ban G β st) H v u) xs [] := p
      cases p'
      refine ⟨a, vs, w, rfl, rfl, h1, by rw [h2.len]; exact k1, ?_⟩
      obtain ⟨f, rl⟩ := put_own re.rl h3 h4 h2.dropLast
      exact h _ _ β f rl (f.rt k2)
    · exact h.elim
  · exact h.elim
def mClear : U → List U → Sto → Res U := fun o us st => match ownL st o, us with
  | some (i, xs), [] => .ok (.d .none) (st.put i [])
  | _, _ => .no
theorem m_clear : SimM G "list" rClear mClear := fun β H σ l st re x u xs us Q hx p h => by
  unfold mClear at h
  split at h
  · rename_i i ys e
    obtain ⟨a, vs, rfl, h1, h2, h3, h4⟩ := own_q re.rl hx e
    have p' : Paired (fun v u => RU G β (Ban G β st) H v u) xs [] := p
    cases p'
    refine ⟨a, vs, rfl, rfl, h1, ?_⟩
    obtain ⟨f, rl⟩ := put_own re.rl h3 h4 .nil
    exact h _ _ β f rl .non
  · exact h.elim
/-! ### xs + ys, xs * k : new lists -/
def SimRN (G : Gx) (r : R2) (f : U → U → Sto → Res (List PyData)) : Prop := ∀ β H σ l st, Re G β H σ l st → ∀ x y a b Q, RU G β (Ban G β st) H x a → RU G β (Ban G β st) H y b → wpN G β H σ st (f a b st) Q → r x y H Q
def lOp (f : U → U → Sto → Res (List PyData)) (a b : ME) : ML := fun l st => (a l st).bind fun x st => (b l st).bind fun y st => f x y st
theorem n_op {r : R2} {f : U → U → Sto → Res (List PyData)} {ta tb : TE} {a b : ME} (hr : SimRN G r f) (ha : SimE G ta a) (hb : SimE G tb b) : SimN G (tOp r ta tb) (lOp f a b) := fun β H σ l st re Q h => by
  refine ha β H σ l st re _ (wpN_bind h fun v x H1 β1 st1 f1 rl1 p1 h1 => ?_)
  have re1 := f1.re rl1 re
  refine hb β1 H1 σ l st1 re1 _ (wpN_bind h1 fun w y H2 β2 st2 f2 rl2 p2 h2 => ?_)
  exact hr β2 H2 σ l st2 (f2.re rl2 re1) v w x y Q (f2.ru p1) p2 h2
def fCat : U → U → Sto → Res (List PyData) := fun a b st => match listOf st a, listOf st b with
  | some xs, some ys => if lenOk (xs.length + ys.length) = true then .ok (xs ++ ys) st else .no
  | _, _ => .no
theorem rn_cat : SimRN G rCat fCat := fun β H σ l st re x y a b Q hx hy h => by
  unfold fCat at h
  split at h
  · rename_i xs ys e1 e2
    split at h
    · rename_i q
      obtain ⟨p, vs, rfl, h1, r1⟩ := list_h re.rl hx e1
      obtain ⟨p', ws, rfl, h2, r2⟩ := list_h re.rl hy e2
      exact ⟨p, p', vs, ws, rfl, rfl, h1, h2, by rw [r1.len, r2.len]; exact of_decide_eq_true q, fun z hz => h H β Fut.refl re.rl z _ hz (r1.append r2)⟩
    · exact h.elim
  · exact h.elim
def fRep : U → U → Sto → Res (List PyData) := fun a b st => match listOf st a, b with
  | some xs, .d (.int k) => if (decide (-(2 ^ 63) ≤ k ∧ k < 2 ^ 63) && lenOk (xs.length * k.toNat)) = true then .ok (List.replicate k.toNat xs).flatten st else .no
  | _, _ => .no
theorem rts_rep {B : Addr → Prop} {K : PySem.W.Frag} {xs : List PyData} {vs : List V} (r : RTs K B H vs xs) : ∀ n, RTs K B H (List.replicate n vs).flatten (List.replicate n xs).flatten
  | 0 => .nil
  | n + 1 => by
    rw [List.replicate_succ, List.replicate_succ, List.flatten_cons, List.flatten_cons]
    exact r.append (rts_rep r n)
theorem rn_rep : SimRN G rRep fRep := fun β H σ l st re x y a b Q hx hy h => by
  unfold fRep at h
  split at h
  · rename_i xs k e1
    split at h
    · rename_i q
      rw [Bool.and_eq_true] at q
      obtain ⟨p, vs, rfl, h1, r1⟩ := list_h re.rl hx e1
      cases ru_int hy
      have q1 := of_decide_eq_true q.1
      exact ⟨p, k, vs, rfl, rfl, h1, q1.1, q1.2, by rw [r1.len]; exact of_decide_eq_true q.2, fun z hz => h H β Fut.refl re.rl z _ hz (rts_rep r1 _)⟩
    · exact h.elim
  · exact h.elim
end
end NW

namespace NW
open PySem PySem.Spec PyProof.Rows L2
/-! ### what a def gives -/
inductive Rp where
  | ok (d : PyData) (fresh : Bool) | ex (e : Exc) | no
inductive Rf where
  | ok (d : PyData) (fresh : Bool) (fl : Fl) | ex (e : Exc) (fl : Fl) | no
def startL (n : Nat) (us : List U) : Loc := us.map some ++ List.replicate (n - us.length) none
def outP (o : Out) : Rp := match o with
  | .rt (.d x) _ => .ok x false
  | .rt (.ref i) st => (match st.obs[i]? with
    | some (.lst xs) => .ok (.list xs) true
    | _ => .no)
  | .nx _ _ => .ok .none false
  | .ex e _ _ => .ex e
  | _ => .no
def outF (o : Out) : Rf := match o with
  | .rt (.d x) st => (match st.fl with
    | some f => .ok x false f
    | none => .no)
  | .rt (.ref i) st => (match st.obs[i]?, st.fl with
    | some (.lst xs), some f => .ok (.list xs) true f
    | _, _ => .no)
  | .nx _ st => (match st.fl with
    | some f => .ok .none false f
    | none => .no)
  | .ex e _ st => (match st.fl with
    | some f => .ex e f
    | none => .no)
  | _ => .no
def pureOf (n : Nat) (b : MS) (ds : List PyData) : Rp := outP (b (startL n (ds.map .d)) ⟨none, []⟩)
def flowOf (n : Nat) (b : MS) (ds : List PyData) (f : Fl) : Rf := outF (b (startL n (.flow :: ds.map .d)) ⟨some f, []⟩)
def NoTup (H : Hp) (O0 : Addr → Prop) : Prop := ∀ p, O0 p → H p ≠ none ∧ ∀ ws, ¬ Rd H p (.tup ws)
def Fresh (K : PySem.W.Frag) (O0 : Addr → Prop) (H H' : Hp) (v : V) (d : PyData) : Prop := ∃ p ws ys, v = .ref p ∧ H p = none ∧ H' p = some (.lst ws) ∧ d = .list ys ∧ RTs K O0 H' ws ys
def spP (K : PySem.W.Frag) (k : Nat) (m : List PyData → Rp) : Sp := fun vs H Q _ => ∃ (O0 : Addr → Prop) (ds : List PyData) (d : PyData) (fr : Bool), NoTup H O0 ∧ RTs K O0 H vs ds ∧ ds.length = k ∧ m ds = .ok d fr ∧
  ∀ v H', (∀ b o, H b = some o → H' b = some o) → RT K O0 H' v d → (fr = true → Fresh K O0 H H' v d) → Q v H'
def spF (K : PySem.W.Frag) (k : Nat) (m : List PyData → Fl → Rf) : Sp := fun vs H Q _ => ∃ (fa fb : Addr) (O0 : Addr → Prop) (f : Fl) (vs' : List V) (ds : List PyData) (d : PyData) (fr : Bool) (f' : Fl), vs = .ref fa :: vs' ∧ NoTup H O0 ∧ ¬ O0 fa ∧ H fa = some (.lst (flV fb f)) ∧
  H fb = some (.lst (f.cells.map V.int)) ∧ fb ≠ fa ∧ ¬ O0 fb ∧ RTs K (fun p => O0 p ∨ p = fa) H vs' ds ∧ ds.length + 1 = k ∧ m ds f = .ok d fr f' ∧
  ∀ v H', (∀ b o, H b = some o → b ≠ fa → H' b = some o) → H' fa = some (.lst (flV fb f')) → f'.cells = f.cells → RT K (fun p => O0 p ∨ p = fa) H' v d → (fr = true → Fresh K (fun p => O0 p ∨ p = fa) H H' v d) → Q v H'
theorem ints_inj : ∀ {a b : List Int}, a.map V.int = b.map V.int → a = b
  | [], [], _ => rfl
  | [], _ :: _, h => by cases h
  | _ :: _, [], h => by cases h
  | x :: a, y :: b, h => by
    rw [List.map_cons, List.map_cons] at h
    injection h with h1 h2
    injection h1 with h1
    rw [h1, ints_inj h2]
section
variable {P : Program} {w : World} {K : PySem.W.Frag} {mg : Str → Option Value} {base : Heap}
theorem start_len (N : List Str) {vs : List V} {us : List U} (h : vs.length = us.length) (hl : us.length ≤ N.length) : (L2.start N vs).length = (startL N.length us).length := by
  unfold L2.start startL; simp [h]
theorem start_get (N : List Str) {n : Nat} {vs : List V} {us : List U} {i : Nat} {u : U} (e : (startL n us)[i]? = some (some u)) : us[i]? = some u := by
  unfold startL at e
  by_cases h : i < us.length
  · rw [List.getElem?_append_left (by simpa using h)] at e
    rw [List.getElem?_map] at e
    cases q : us[i]? with
    | none => rw [q] at e; cases e
    | some w => rw [q] at e; cases e; rfl
  · rw [List.getElem?_append_right (by simpa using h)] at e
    have := List.getElem?_eq_some_iff.mp e
    obtain ⟨h1, h2⟩ := this
    rw [List.getElem_replicate] at h2; cases h2
theorem start_getV (N : List Str) {vs : List V} {i : Nat} {v : V} (e : vs[i]? = some v) : (L2.start N vs)[i]? = some (some v) := by
  unfold L2.start
  have h : i < vs.length := (List.getElem?_eq_some_iff.mp e).1
  rw [List.getElem?_append_left (by simpa using h), List.getElem?_map, e]; rfl
theorem rp_end {G : Gx} {H : Hp} {o : Out} {Q : VK} {d : PyData} {fr : Bool} (hG : G.K = K) (e : outP o = .ok d fr) (q : ∀ v H', (∀ b o, H b = some o → H' b = some o) → RT K G.O0 H' v d → (fr = true → Fresh K G.O0 H H' v d) → Q v H') :
    wpS G [] H ⟨none, []⟩ o { nx := fun _ H' => Q .non H', rt := Q } := by
  subst hG
  have own0 : ∀ b, ¬ Own G [] ⟨none, []⟩ b := fun b h => by
    rcases h with ⟨h, _⟩ | ⟨i, xs, h, _⟩
    · cases h
    · simp at h
  unfold outP at e
  split at e
  · cases e
    exact fun v H' β' f rl r => q v H' (fun b o h => (f.stay b o h (own0 b)).1) (RT.weak (fun a h => .inl h) _ _ r) (fun z => by cases z)
  · rename_i i st
    split at e
    · rename_i xs hx
      cases e
      intro v H' β' f rl r
      obtain ⟨p, h1, rfl⟩ := r
      obtain ⟨p', vs, a, b, c⟩ := rl.ob i xs hx
      rw [h1] at a; cases a
      have c' : RTs G.K G.O0 H' vs xs := RTs.weak (fun a h => .inl h) _ _ c
      have hf : H p = none := by
        obtain ⟨γ, e, hγ⟩ := f.ext
        rw [List.nil_append] at e; subst e
        exact hγ p (List.mem_of_getElem? h1)
      exact q _ H' (fun b o h => (f.stay b o h (own0 b)).1) (.lst ⟨b, fun z => (rl.o0 p z).2.1 (.inr ⟨i, xs, hx, h1⟩)⟩ c') (fun _ => ⟨p, vs, xs, rfl, hf, b, rfl, c'⟩)
    · cases e
  · cases e
    exact fun σ' H' β' f re => q .non H' (fun b o h => (f.stay b o h (own0 b)).1) .non (fun z => by cases z)
  · cases e
  · cases e
/-- THE RULE for a pure def -/
theorem okP {x qual : Str} {st : Stmt} {f : Addr} {fd : FuncData} {N ps : List Str} {k : Nat} {b : MS} (F : Fun K x qual st f fd) (S : FnScope N ps (defScope st)) (hN : ps.length ≤ N.length)
    (hb : ∀ (cdv : Value) (A : Around) (outer : List Env) (s : Shared) (H : Hp) (E : XK), Room k (A.deeper (envOfC qual (defScope st) s.heap.objs.size f cdv)) →
      ∃ t, PSs (cxOf CX0 P w K mg base N qual (defScope st) f cdv A outer s H E).nox (defBody st) t ∧ ∀ G : Gx, G.K = K → SimS G t b) :
    FnOk P w K mg base CX0 (k + 1) f fd ps (spP K ps.length (pureOf N.length b)) := by
  refine F.ok S (fun vs H Q E h => ?_) (fun cdv A outer s H vs Q E hr h => ?_)
  · obtain ⟨O0, ds, d, fr, _, r, hl, _⟩ := h
    rw [r.len, hl]
  · obtain ⟨O0, ds, d, fr, hO, r, hl, e, q⟩ := h
    obtain ⟨t, ht, hs⟩ := hb cdv A outer s H E hr
    refine ⟨t, ht, ?_⟩
    have own0 : ∀ b, ¬ Own ⟨K, 0, 0, O0, fun _ => none, fun _ _ _ _ => False⟩ [] ⟨none, []⟩ b := fun b h => by
      rcases h with ⟨h, _⟩ | ⟨i, xs, h, _⟩
      · cases h
      · simp at h
    have re : Re ⟨K, 0, 0, O0, fun _ => none, fun _ _ _ _ => False⟩ [] H (L2.start N vs) (startL N.length (ds.map .d)) ⟨none, []⟩ := by
      refine ⟨⟨rfl, .nil, fun p hp => by simp at hp, fun i xs h => by simp at h, fun f h => (by cases h), fun p hp => ⟨(hO p hp).1, own0 p, (hO p hp).2⟩⟩, ⟨start_len N (by rw [r.len]; simp) (by simp; omega), fun i u e => ?_⟩⟩
      have e1 := start_get N (vs := vs) e
      rw [List.getElem?_map] at e1
      cases e2 : ds[i]? with
      | none => rw [e2] at e1; cases e1
      | some y =>
        rw [e2] at e1; cases e1
        obtain ⟨v, h1, h2⟩ := r.get e2
        exact ⟨v, start_getV N h1, RT.weak (fun a h => h.elim id fun z => (own0 a z).elim) _ _ h2⟩
    exact hs ⟨K, 0, 0, O0, fun _ => none, fun _ _ _ _ => False⟩ rfl [] H _ _ _ re _ (rp_end (K := K) rfl e q)
theorem rf_end {G : Gx} {H : Hp} {f : Fl} {o : Out} {Q : VK} {d : PyData} {fr : Bool} {f' : Fl} (hG : G.K = K) (hfb : H G.fb = some (.lst (f.cells.map V.int))) (hne : G.fb ≠ G.fa) (e : outF o = .ok d fr f')
    (q : ∀ v H', (∀ b o, H b = some o → b ≠ G.fa → H' b = some o) → H' G.fa = some (.lst (flV G.fb f')) → f'.cells = f.cells → RT K (fun p => G.O0 p ∨ p = G.fa) H' v d → (fr = true → Fresh K (fun p => G.O0 p ∨ p = G.fa) H H' v d) → Q v H') :
    wpS G [] H ⟨some f, []⟩ o { nx := fun _ H' => Q .non H', rt := Q } := by
  subst hG
  have own0 : ∀ b, Own G [] ⟨some f, []⟩ b → b = G.fa := fun b h => by
    rcases h with ⟨_, h⟩ | ⟨i, xs, h, _⟩
    · exact h
    · simp at h
  have bn : ∀ {β' : List Addr} {st' : Sto}, st'.fl = some f' → ∀ a, (G.O0 a ∨ a = G.fa) → Ban G β' st' a := fun h a z => z.imp id fun z => .inl ⟨by rw [h]; rfl, z⟩
  have fin : ∀ {β' : List Addr} {st' : Sto} {H' : Hp}, st'.fl = some f' → Fut G [] ⟨some f, []⟩ H β' st' H' → Rl G β' H' st' → (∀ b o, H b = some o → b ≠ G.fa → H' b = some o) ∧ H' G.fa = some (.lst (flV G.fb f')) ∧ f'.cells = f.cells := fun {β' st' H'} h f1 rl => by
    have s1 : ∀ b o, H b = some o → b ≠ G.fa → H' b = some o := fun b o hb n => (f1.stay b o hb fun z => n (own0 b z)).1
    obtain ⟨⟨h1, h2⟩, _⟩ := rl.flo f' h
    have h3 := s1 _ _ hfb hne
    rw [h2.1] at h3
    refine ⟨s1, h1, ints_inj ?_⟩
    injection h3 with h3; injection h3
  unfold outF at e
  split at e
  · rename_i x st
    split at e
    · rename_i g hg
      cases e
      intro v H' β' f1 rl r
      obtain ⟨a, b, c⟩ := fin hg f1 rl
      exact q v H' a b c (RT.weak (bn hg) _ _ r) (fun z => by cases z)
    · cases e
  · rename_i i st
    split at e
    · rename_i xs g hx hg
      cases e
      intro v H' β' f1 rl r
      obtain ⟨a0, b0, c0⟩ := fin hg f1 rl
      obtain ⟨p, h1, rfl⟩ := r
      obtain ⟨p', vs, a, b, c⟩ := rl.ob i xs hx
      rw [h1] at a; cases a
      have c' : RTs G.K (fun p => G.O0 p ∨ p = G.fa) H' vs xs := RTs.weak (bn hg) _ _ c
      have hf : H p = none := by
        obtain ⟨γ, e, hγ⟩ := f1.ext
        rw [List.nil_append] at e; subst e
        exact hγ p (List.mem_of_getElem? h1)
      refine q _ H' a0 b0 c0 (.lst ⟨b, fun z => ?_⟩ c') (fun _ => ⟨p, vs, xs, rfl, hf, b, rfl, c'⟩)
      rcases z with z | z
      · exact (rl.o0 p z).2.1 (.inr ⟨i, xs, hx, h1⟩)
      · exact (rl.flo _ hg).2 (z ▸ List.mem_of_getElem? h1)
    · cases e
  · split at e
    · rename_i g hg
      cases e
      intro σ' H' β' f1 re
      obtain ⟨a, b, c⟩ := fin hg f1 re.rl
      exact q .non H' a b c .non (fun z => by cases z)
    · cases e
  · split at e <;> cases e
  · cases e
/-- THE RULE for a def that draws -/
theorem okF {x qual : Str} {st : Stmt} {f : Addr} {fd : FuncData} {N ps : List Str} {k : Nat} {b : MS} (F : Fun K x qual st f fd) (S : FnScope N ps (defScope st)) (hN : ps.length ≤ N.length)
    (hb : ∀ (cdv : Value) (A : Around) (outer : List Env) (s : Shared) (H : Hp) (E : XK), Room k (A.deeper (envOfC qual (defScope st) s.heap.objs.size f cdv)) →
      ∃ t, PSs (cxOf CX0 P w K mg base N qual (defScope st) f cdv A outer s H E).nox (defBody st) t ∧ ∀ G : Gx, G.K = K → SimS G t b) :
    FnOk P w K mg base CX0 (k + 1) f fd ps (spF K ps.length (flowOf N.length b)) := by
  refine F.ok S (fun vs H Q E h => ?_) (fun cdv A outer s H vs Q E hr h => ?_)
  · obtain ⟨fa, fb, O0, g, vs', ds, d, fr, g', rfl, _, _, _, _, _, _, r, hl, _⟩ := h
    rw [List.length_cons, r.len, hl]
  · obtain ⟨fa, fb, O0, g, vs', ds, d, fr, g', rfl, hO, hO1, h1, h2, hne, hO2, r, hl, e, q⟩ := h
    obtain ⟨t, ht, hs⟩ := hb cdv A outer s H E hr
    refine ⟨t, ht, ?_⟩
    have own0 : ∀ b, Own ⟨K, fa, fb, O0, fun _ => none, fun _ _ _ _ => False⟩ [] ⟨some g, []⟩ b ↔ b = fa := fun b => ⟨fun h => by
      rcases h with ⟨_, h⟩ | ⟨i, xs, h, _⟩
      · exact h
      · simp at h, fun h => .inl ⟨rfl, h⟩⟩
    have bn : ∀ a, Ban ⟨K, fa, fb, O0, fun _ => none, fun _ _ _ _ => False⟩ [] ⟨some g, []⟩ a → (O0 a ∨ a = fa) := fun a h => h.imp id (own0 a).mp
    have re : Re ⟨K, fa, fb, O0, fun _ => none, fun _ _ _ _ => False⟩ [] H (L2.start N (.ref fa :: vs')) (startL N.length (.flow :: ds.map .d)) ⟨some g, []⟩ := by
      refine ⟨⟨rfl, .nil, fun p hp => by simp at hp, fun i xs h => by simp at h, fun f h => ?_, fun p hp => ⟨(hO p hp).1, fun z => hO1 ((own0 p).mp z ▸ hp), (hO p hp).2⟩⟩, ⟨start_len N (by simp [r.len]) (by simp; omega), fun i u e => ?_⟩⟩
      · cases h
        exact ⟨⟨h1, h2, fun z => (bn _ z).elim hO2 hne⟩, by simp⟩
      · have e1 := start_get N (vs := .ref fa :: vs') e
        cases i with
        | zero => simp at e1; subst e1; exact ⟨.ref fa, start_getV N rfl, rfl⟩
        | succ i =>
          rw [List.getElem?_cons_succ, List.getElem?_map] at e1
          cases e2 : ds[i]? with
          | none => rw [e2] at e1; cases e1
          | some y =>
            rw [e2] at e1; cases e1
            obtain ⟨v, h1, h2⟩ := r.get e2
            exact ⟨v, start_getV N (by simpa using h1), RT.weak bn _ _ h2⟩
    exact hs ⟨K, fa, fb, O0, fun _ => none, fun _ _ _ _ => False⟩ rfl [] H _ _ _ re _ (rf_end (K := K) rfl h2 hne e q)
end
/-! ### calls -/
def ctrees (st : Sto) : List U → Option (List PyData)
  | [] => some []
  | u :: us => match toTree st u, ctrees st us with
    | some x, some xs => some (x :: xs)
    | _, _ => none
def isRef : U → Bool
  | .ref _ => true
  | _ => false
mutual
def noLst : PyData → Bool
  | .list _ => false
  | .tuple xs => noLsts xs
  | _ => true
def noLsts : List PyData → Bool
  | [] => true
  | x :: xs => noLst x && noLsts xs
end
section
variable {G : Gx} {β β' : List Addr} {st st' : Sto} {H H' : Hp} {v : V} {u : U} {σ σ' : L2.St} {l l' : Loc} {D : Ends}
mutual
theorem RT.noLst {K : PySem.W.Frag} {B B' : Addr → Prop} (hB : ∀ p ws, Rd H p (.tup ws) → ¬ B' p) : ∀ (d : PyData) (v : V), noLst d = true → RT K B H v d → RT K B' H v d
  | .none, _, _, h => by cases h; exact .non
  | .bool b, _, _, h => by cases h; exact .bl b
  | .int i, _, _, h => by cases h; exact .int i
  | .str x, _, _, h => by cases h; exact .str x
  | .list ds, _, n, h => by simp [NW.noLst] at n
  | .tuple ds, _, n, h => by
    cases h with
    | tup hs ha => exact .tup (hs.imp (fun z => ⟨z.1, hB _ _ z.1⟩) id) (RTs.noLst hB ds _ (by simpa [NW.noLst] using n) ha)
  | .dict _, _, _, h => by cases h
theorem RTs.noLst {K : PySem.W.Frag} {B B' : Addr → Prop} (hB : ∀ p ws, Rd H p (.tup ws) → ¬ B' p) : ∀ (ds : List PyData) (vs : List V), noLsts ds = true → RTs K B H vs ds → RTs K B' H vs ds
  | [], _, _, h => by cases h; exact .nil
  | d :: ds, _, n, h => by
    rw [NW.noLsts, Bool.and_eq_true] at n
    cases h with
    | cons h1 h2 => exact .cons (RT.noLst hB d _ n.1 h1) (RTs.noLst hB ds _ n.2 h2)
end
theorem toTree_d {x : PyData} (e : toTree st u = some x) (n : isRef u = false) : u = .d x := by
  cases u with
  | d y => cases e; rfl
  | ref i => cases n
  | flow => cases e
  | scr k => cases e
theorem ctrees_r : ∀ {us : List U} {vs : List V} {ds : List PyData}, Paired (fun v u => RU G β (Ban G β st) H v u) vs us → ctrees st us = some ds → us.any isRef = false → RTs G.K (Ban G β st) H vs ds
  | [], _, ds, .nil, e, _ => by cases e; exact .nil
  | u :: us, _, ds, .cons h t, e, n => by
    rw [List.any_cons, Bool.or_eq_false_iff] at n
    unfold ctrees at e
    split at e
    · rename_i x xs e1 e2
      cases e
      cases toTree_d e1 n.1
      exact .cons h (ctrees_r t e2 n.2)
    · cases e
theorem ctrees_0 (rl : Rl G β H st) {B' : Addr → Prop} (hB : ∀ p, B' p → Ban G β st p ∧ p ∉ β) : ∀ {us : List U} {vs : List V} {ds : List PyData}, Paired (fun v u => RU G β (Ban G β st) H v u) vs us → ctrees st us = some ds → RTs G.K B' H vs ds
  | [], _, ds, .nil, e => by cases e; exact .nil
  | u :: us, _, ds, .cons h t, e => by
    unfold ctrees at e
    split at e
    · rename_i x xs e1 e2
      cases e
      refine .cons ?_ (ctrees_0 rl hB t e2)
      cases u with
      | d y => cases e1; exact RT.weak (fun p z => (hB p z).1) _ _ h
      | flow => cases e1
      | scr k => cases e1
      | ref i =>
        simp only [toTree] at e1
        split at e1
        · rename_i ys hy
          cases e1
          obtain ⟨p, h1, rfl⟩ := h
          obtain ⟨q, vs, a, b, c⟩ := rl.ob i ys hy
          rw [h1] at a; cases a
          exact .lst ⟨b, fun z => (hB p z).2 (List.mem_of_getElem? h1)⟩ (RTs.weak (fun p z => (hB p z).1) _ _ c)
        · cases e1
    · cases e
theorem Rl.grown (rl : Rl G β H st) (k : ∀ b o, H b = some o → H' b = some o) : Fut G β st H β st H' ∧ Rl G β H' st := by
  have f : Fut G β st H β st H' := ⟨⟨[], by simp, by simp⟩, fun b h => by
    cases e : H b with
    | none => exact absurd e h
    | some o => rw [k b o e]; simp, fun b o h n => ⟨k b o h, n⟩⟩
  refine ⟨f, rl.len, rl.nodup, fun q hq => f.there q (rl.trk q hq), fun i xs h => ?_, fun g hg => ?_, fun q hq => rl.o0_fut f q hq (rl.o0 q hq).2.1⟩
  · obtain ⟨q, vs, a, b, c⟩ := rl.ob i xs h
    exact ⟨q, vs, a, k _ _ b, f.rts c⟩
  · obtain ⟨⟨a, b⟩, c⟩ := rl.flo g hg
    exact ⟨⟨k _ _ a, b.fut f⟩, c⟩
theorem Rl.noTupB (rl : Rl G β H st) : NoTup H (Ban G β st) := fun p h => ⟨fun e => rl.notBan e h, fun ws => rl.banNoTup h ws⟩
/-- f(..), f pure -/
def fCallP (k : Nat) (m : List PyData → Rp) (us : List U) (st : Sto) : Res U := match ctrees st us with
  | some ds => if ds.length = k then (match m ds with
    | .ok d _ => if (!us.any isRef || noLst d) = true then .ok (.d d) st else .no
    | _ => .no) else .no
  | none => .no
def eCallP (k : Nat) (m : List PyData → Rp) (a : MA) : ME := fun l st => (a l st).bind (fCallP k m)
theorem s_callP {k : Nat} {m : List PyData → Rp} {ta : TA} {a : MA} {E : XK} (ha : SimA G ta a) : SimE G (tCall (spP G.K k m) [] E ta) (eCallP k m a) := fun β H σ l st re Q h => by
  refine ha β H σ l st re _ (wpR_bind h fun vs us H1 β1 st1 f1 rl1 p1 h1 => ?_)
  show spP G.K k m (vs ++ []) H1 Q E
  rw [List.append_nil]
  unfold fCallP at h1
  split at h1
  · rename_i ds e
    split at h1
    · rename_i hk
      split at h1
      · rename_i d fr e2
        split at h1
        · rename_i hc
          by_cases hr : us.any isRef = false
          · refine ⟨Ban G β1 st1, ds, d, fr, rl1.noTupB, ctrees_r p1 e hr, hk, e2, fun v H' kk rt _ => ?_⟩
            obtain ⟨f2, rl2⟩ := rl1.grown kk
            exact h1 v H' β1 f2 rl2 rt
          · have hr' : us.any isRef = true := by simpa using hr
            rw [hr'] at hc
            refine ⟨fun _ => False, ds, d, fr, fun p h => h.elim, ctrees_0 rl1 (fun p z => z.elim) p1 e, hk, e2, fun v H' kk rt _ => ?_⟩
            obtain ⟨f2, rl2⟩ := rl1.grown kk
            exact h1 v H' β1 f2 rl2 (RT.noLst (fun p ws z => rl2.tupB z) _ _ (by simpa using hc) rt)
        · exact h1.elim
      · exact h1.elim
    · exact h1.elim
  · exact h1.elim
/-- f(flow, ..) -/
def fCallF (k : Nat) (m : List PyData → Fl → Rf) (us : List U) (st : Sto) : Res U := match us, st.fl with
  | .flow :: us, some f => (match ctrees st us with
    | some ds => if ds.length + 1 = k then (match m ds f with
      | .ok d _ f' => if (!us.any isRef || noLst d) = true then .ok (.d d) { st with fl := some f' } else .no
      | _ => .no) else .no
    | none => .no)
  | _, _ => .no
def eCallF (k : Nat) (m : List PyData → Fl → Rf) (a : MA) : ME := fun l st => (a l st).bind (fCallF k m)
theorem s_callF {k : Nat} {m : List PyData → Fl → Rf} {ta : TA} {a : MA} {E : XK} (ha : SimA G ta a) : SimE G (tCall (spF G.K k m) [] E ta) (eCallF k m a) := fun β H σ l st re Q h => by
  refine ha β H σ l st re _ (wpR_bind h fun vs us H1 β1 st1 f1 rl1 p1 h1 => ?_)
  show spF G.K k m (vs ++ []) H1 Q E
  rw [List.append_nil]
  unfold fCallF at h1
  split at h1
  · rename_i us0 f hf
    split at h1
    · rename_i ds e
      split at h1
      · rename_i hk
        split at h1
        · rename_i d fr f' e2
          split at h1
          · rename_i hc
            have p1' : Paired (fun v u => RU G β1 (Ban G β1 st1) H1 v u) vs (.flow :: us0) := p1
            cases p1' with
            | cons r0 rs =>
              rename_i v0 vs0
              cases (show v0 = .ref G.fa from r0)
              obtain ⟨⟨a0, b0⟩, c0⟩ := rl1.flo f hf
              have ofa : Own G β1 st1 G.fa := .inl ⟨by rw [hf]; rfl, rfl⟩
              have hne : G.fb ≠ G.fa := fun e => b0.2 (.inr (e ▸ ofa))
              by_cases hr : us0.any isRef = false
              · have eb : ∀ p, (Ban G β1 st1 p ∧ p ≠ G.fa) ∨ p = G.fa ↔ Ban G β1 st1 p := fun p => ⟨fun h => h.elim (·.1) fun e => .inr (e ▸ ofa), fun h => by
                  by_cases e : p = G.fa
                  · exact .inr e
                  · exact .inl ⟨h, e⟩⟩
                refine ⟨G.fa, G.fb, fun p => Ban G β1 st1 p ∧ p ≠ G.fa, f, vs0, ds, d, fr, f', rfl, fun p h => rl1.noTupB p h.1, fun h => h.2 rfl, a0, b0.1, hne, fun h => b0.2 h.1, RTs.weak (fun p h => (eb p).mp h) _ _ (ctrees_r rs e hr), hk, e2, fun v H' kk hfa hcl rt _ => ?_⟩
                obtain ⟨f2, rl2⟩ := flow_end rl1 hf kk hfa hcl
                exact h1 v H' β1 f2 rl2 (RT.weak (fun p h => (eb p).mpr (h.imp id (own_fl hf p).mp)) _ _ rt)
              · have hr' : us0.any isRef = true := by simpa using hr
                rw [hr'] at hc
                have b1 : RTs G.K (fun p => False ∨ p = G.fa) H1 vs0 ds := ctrees_0 rl1 (fun p z => z.elim False.elim fun z => ⟨z ▸ .inr ofa, z ▸ c0⟩) rs e
                refine ⟨G.fa, G.fb, fun _ => False, f, vs0, ds, d, fr, f', rfl, fun p h => h.elim, fun h => h, a0, b0.1, hne, fun h => h, b1, hk, e2, fun v H' kk hfa hcl rt _ => ?_⟩
                obtain ⟨f2, rl2⟩ := flow_end rl1 hf kk hfa hcl
                exact h1 v H' β1 f2 rl2 (RT.noLst (fun p ws z => rl2.tupB z) _ _ (by simpa using hc) rt)
          · exact h1.elim
        · exact h1.elim
      · exact h1.elim
    · exact h1.elim
  · exact h1.elim
end
end NW

namespace NW
open PySem PySem.Spec PyProof.Rows L2
structure QE (X : Cx) (e : Expr) (t : TE) (m : ME) : Prop where
  pe : PE X e t
  sim : ∀ G : Gx, G.K = X.K → SimE G t m
structure QN (X : Cx) (e : Expr) (t : TE) (m : ML) : Prop where
  pe : PE X e t
  sim : ∀ G : Gx, G.K = X.K → SimN G t m
structure QT (X : Cx) (e : Expr) (t : TT) (m : MB) : Prop where
  pt : PT X e t
  sim : ∀ G : Gx, G.K = X.K → SimT G t m
structure QW (X : Cx) (e : Expr) (t : TT) (m : MB) : Prop where
  pw : PW X e t
  sim : ∀ G : Gx, G.K = X.K → SimT G t m
structure QA (X : Cx) (es : List Expr) (t : TA) (m : MA) : Prop where
  pa : PA X es t
  sim : ∀ G : Gx, G.K = X.K → SimA G t m
structure QO (X : Cx) (e : Option Expr) (t : TO) (m : MO) : Prop where
  po : L2.PO X e t
  sim : ∀ G : Gx, G.K = X.K → SimO G t m
structure QI (X : Cx) (tg e : Expr) (t : TI) (m : MI) : Prop where
  pi : PI X tg e t
  sim : ∀ G : Gx, G.K = X.K → SimI G t m
structure QG (X : Cx) (vs : List Nat) (e : Expr) (g : TG) (m : MT) : Prop where
  pg : PG X e g
  sim : ∀ G : Gx, G.K = X.K → SimG G vs g m
structure QGs (X : Cx) (vs : List Nat) (es : List Expr) (g : TGs) (m : MTs) : Prop where
  pgs : PGs X es g
  sim : ∀ G : Gx, G.K = X.K → SimGs G vs g m
  ne : ∀ ds l st, (m ds l st).noEx
structure QS (X : Cx) (s : Stmt) (t : TS) (m : MS) : Prop where
  ps : PS X s t
  sim : ∀ G : Gx, G.K = X.K → SimS G t m
structure QSs (X : Cx) (s : List Stmt) (t : TS) (m : MS) : Prop where
  pss : PSs X s t
  sim : ∀ G : Gx, G.K = X.K → SimS G t m
section
variable {X : Cx} {a b c e o i : Expr} {es : List Expr} {pos p pos2 : Pos} {ta tb tc te to ti : TE} {ma mb mc me mo mi : ME} {t u : TT} {mt mu : MB} {tA : TA} {mA : MA}
/-! names, constants -/
theorem q_var (i : Nat) {x : Str} (hN : X.N[i]? = some x := by rfl) (hv : Vis X.env.scope x := by first | exact Or.inl rfl | exact Or.inr (Or.inl rfl) | exact Or.inr (Or.inr rfl)) (hd : (x == ("__debug__" : Str)) = false := by decide)
    (hcd : (x == ("__classdict__" : Str)) = false := by decide) : QE X (.Name x pos) (tVar i) (eVar i) := ⟨pv i hN hv hd hcd, fun _ _ => s_var i⟩
theorem q_int {n : Int} {j : Nat} : QE X (.Constant (.int n) j pos) (tC (.int n)) (eC (.int n)) := ⟨pe_int, fun _ _ => s_int n⟩
theorem q_bl {n : Bool} {j : Nat} : QE X (.Constant (.bool n) j pos) (tC (.bl n)) (eC (.bool n)) := ⟨pe_bl, fun _ _ => s_bl n⟩
theorem q_non {j : Nat} : QE X (.Constant .none j pos) (tC .non) (eC .none) := ⟨pe_non, fun _ _ => s_non⟩
theorem q_str {z : Str} {j : Nat} : QE X (.Constant (.str z) j pos) (tC (.str z)) (eC (.str z)) := ⟨pe_str, fun _ _ => s_str z⟩
/-- a module's constant -/
def IsC (K : PySem.W.Frag) (u : Value) (v : V) (x : PyData) : Prop := RelV v u ∧ ∀ B H, RT K B H v x
theorem q_glob {x : Str} {u : Value} {v : V} {d : PyData} (hg : Gl X x) (hm : X.mg x = some u) (h : IsC X.K u v d) (hd : (x == ("__debug__" : Str)) = false := by decide) : QE X (.Name x pos) (tC v) (eC d) :=
  ⟨pe_glob hg hm h.1 hd, fun G hG => s_c (by rw [hG]; exact h.2)⟩
/-! operators -/
theorem q_add (ha : QE X a ta ma) (hb : QE X b tb mb) : QE X (.BinOp a .Add b pos) (tOp (rI0 fun i j => .int (i + j)) ta tb) (eOp fAdd ma mb) := ⟨pe_op op_add ha.pe hb.pe, fun G h => s_op r_add (ha.sim G h) (hb.sim G h)⟩
theorem q_sub (ha : QE X a ta ma) (hb : QE X b tb mb) : QE X (.BinOp a .Sub b pos) (tOp (rI0 fun i j => .int (i - j)) ta tb) (eOp fSub ma mb) := ⟨pe_op op_sub ha.pe hb.pe, fun G h => s_op r_sub (ha.sim G h) (hb.sim G h)⟩
theorem q_mul (ha : QE X a ta ma) (hb : QE X b tb mb) : QE X (.BinOp a .Mult b pos) (tOp (rI CMulW fun i j => .int (i * j)) ta tb) (eOp fMul ma mb) := ⟨pe_op op_mulW ha.pe hb.pe, fun G h => s_op r_mul (ha.sim G h) (hb.sim G h)⟩
theorem q_mod (ha : QE X a ta ma) (hb : QE X b tb mb) : QE X (.BinOp a .Mod b pos) (tOp (rI (fun _ j => j ≠ 0) fun i j => .int (i.fmod j)) ta tb) (eOp fMod ma mb) := ⟨pe_op op_modN ha.pe hb.pe, fun G h => s_op r_mod (ha.sim G h) (hb.sim G h)⟩
theorem q_div (ha : QE X a ta ma) (hb : QE X b tb mb) : QE X (.BinOp a .FloorDiv b pos) (tOp (rI CDivA fun i j => .int (i.fdiv j)) ta tb) (eOp fDiv ma mb) := ⟨pe_op op_fdivA ha.pe hb.pe, fun G h => s_op r_div (ha.sim G h) (hb.sim G h)⟩
theorem q_pow (ha : QE X a ta ma) (hb : QE X b tb mb) : QE X (.BinOp a .Pow b pos) (tOp (rI CPow fun i j => .int (i ^ j.toNat)) ta tb) (eOp fPow ma mb) := ⟨pe_op op_pow ha.pe hb.pe, fun G h => s_op r_pow (ha.sim G h) (hb.sim G h)⟩
theorem q_neg (n : Int) {j : Nat} {p2 : Pos} : QE X (.UnaryOp .USub (.Constant (.int n) j p2) pos) (tUn (rU fun i => .int (-i)) (tC (.int n))) (eC (.int (-n))) :=
  ⟨pe_un un_neg pe_int, fun G h β H σ l st re Q q => ⟨n, rfl, wpR_d re.rl (.int _) q⟩⟩
theorem qn_cat (ha : QE X a ta ma) (hb : QE X b tb mb) : QN X (.BinOp a .Add b pos) (tOp rCat ta tb) (lOp fCat ma mb) := ⟨pe_op op_cat ha.pe hb.pe, fun G h => n_op rn_cat (ha.sim G h) (hb.sim G h)⟩
theorem qn_rep (ha : QE X a ta ma) (hb : QE X b tb mb) : QN X (.BinOp a .Mult b pos) (tOp rRep ta tb) (lOp fRep ma mb) := ⟨pe_op op_rep ha.pe hb.pe, fun G h => n_op rn_rep (ha.sim G h) (hb.sim G h)⟩
/-! comparisons -/
theorem q_lt (ha : QE X a ta ma) (hb : QE X b tb mb) : QE X (.Compare a [.Lt] [b] pos) (tOp (rI0 fun i j => .bl (decide (i < j))) ta tb) (eOp fLt ma mb) := ⟨pe_cmpR op_lt ha.pe hb.pe (nomark _), fun G h => s_op r_lt (ha.sim G h) (hb.sim G h)⟩
theorem q_le (ha : QE X a ta ma) (hb : QE X b tb mb) : QE X (.Compare a [.LtE] [b] pos) (tOp (rI0 fun i j => .bl (decide (i ≤ j))) ta tb) (eOp fLe ma mb) := ⟨pe_cmpR op_le ha.pe hb.pe (nomark _), fun G h => s_op r_le (ha.sim G h) (hb.sim G h)⟩
theorem q_gt (ha : QE X a ta ma) (hb : QE X b tb mb) : QE X (.Compare a [.Gt] [b] pos) (tOp (rI0 fun i j => .bl (decide (j < i))) ta tb) (eOp fGt ma mb) := ⟨pe_cmpR op_gt ha.pe hb.pe (nomark _), fun G h => s_op r_gt (ha.sim G h) (hb.sim G h)⟩
theorem q_ge (ha : QE X a ta ma) (hb : QE X b tb mb) : QE X (.Compare a [.GtE] [b] pos) (tOp (rI0 fun i j => .bl (decide (j ≤ i))) ta tb) (eOp fGe ma mb) := ⟨pe_cmpR op_ge ha.pe hb.pe (nomark _), fun G h => s_op r_ge (ha.sim G h) (hb.sim G h)⟩
theorem q_eq {k : Nat} (hr : Room k X.A) (ha : QE X a ta ma) (hb : QE X b tb mb) : QE X (.Compare a [.Eq] [b] pos) (tOp (rEqD X.K) ta tb) (eOp (opEq false) ma mb) := ⟨pe_cmpR (op_eqD hr.units) ha.pe hb.pe (nomark _), fun G h => h ▸ s_op r_eq (ha.sim G h) (hb.sim G h)⟩
theorem q_ne {k : Nat} (hr : Room k X.A) (ha : QE X a ta ma) (hb : QE X b tb mb) : QE X (.Compare a [.NotEq] [b] pos) (tOp (rNeD X.K) ta tb) (eOp (opEq true) ma mb) := ⟨pe_cmpR (op_neD hr.units) ha.pe hb.pe (nomark _), fun G h => h ▸ s_op r_ne (ha.sim G h) (hb.sim G h)⟩
theorem q_in (ha : QE X a ta ma) (hb : QE X b tb mb) (hm : behindInMarks .In b = false := by rfl) : QE X (.Compare a [.In] [b] pos) (tOp (rIn X.K false) ta tb) (eOp (fIn false) ma mb) := ⟨pe_cmpR op_in_seq ha.pe hb.pe hm, fun G h => h ▸ s_op (r_in false) (ha.sim G h) (hb.sim G h)⟩
theorem q_notin (ha : QE X a ta ma) (hb : QE X b tb mb) (hm : behindInMarks .NotIn b = false := by rfl) : QE X (.Compare a [.NotIn] [b] pos) (tOp (rIn X.K true) ta tb) (eOp (fIn true) ma mb) := ⟨pe_cmpR op_notIn_seq ha.pe hb.pe hm, fun G h => h ▸ s_op (r_in true) (ha.sim G h) (hb.sim G h)⟩
theorem q_isN (ha : QE X a ta ma) (hb : QE X b tb mb) : QE X (.Compare a [.Is] [b] pos) (tOp (fun x y H Q => y = .non ∧ Q (.bl (decide (x = .non))) H) ta tb) (eOp (fIsN false) ma mb) := ⟨pe_cmpR op_isN ha.pe hb.pe (nomark _), fun G h => s_op r_isN (ha.sim G h) (hb.sim G h)⟩
theorem q_notN (ha : QE X a ta ma) (hb : QE X b tb mb) : QE X (.Compare a [.IsNot] [b] pos) (tOp (fun x y H Q => y = .non ∧ Q (.bl (!decide (x = .non))) H) ta tb) (eOp (fIsN true) ma mb) := ⟨pe_cmpR op_notN ha.pe hb.pe (nomark _), fun G h => s_op r_notN (ha.sim G h) (hb.sim G h)⟩
/-- a op b op' c of ints -/
structure CR2 (X : Cx) (op : CmpOp) (r : R2) (f : U → U → Sto → Res U) : Prop where
  op : OpR X (compareOp op) r
  sim : ∀ G : Gx, SimR G r f
theorem cr_lt : CR2 X .Lt (rI0 fun i j => .bl (decide (i < j))) fLt := ⟨op_lt, fun _ => r_lt⟩
theorem cr_le : CR2 X .LtE (rI0 fun i j => .bl (decide (i ≤ j))) fLe := ⟨op_le, fun _ => r_le⟩
theorem q_chain {op op' : CmpOp} {r r' : R2} {f g : U → U → Sto → Res U} (h1 : CR2 X op r f) (h2 : CR2 X op' r' g) (ha : QE X a ta ma) (hb : QE X b tb mb) (hc : QE X c tc mc) (hm : lastMarks [op, op'] [b, c] = false := by with_unfolding_all rfl) : QE X (.Compare a [op, op'] [b, c] pos) (tChain r r' ta tb tc) (eChain f g ma mb mc) :=
  ⟨pe_chain h1.op h2.op ha.pe hb.pe hc.pe hm, fun G h => s_chain (h1.sim G) (h2.sim G) (ha.sim G h) (hb.sim G h) (hc.sim G h)⟩
/-! tests -/
/-- any expression whose test is its value's truth -/
theorem qt_val (h : QE X e te me) (he : ∀ whole, isTrue e X.env whole = (do let v ← whole; standAt e.pos; holding [v] (truthy v)) := by intro _; rfl) : QT X e (tB te) (bTest me) := ⟨pt_val h.pe he, fun G hG => s_tB (h.sim G hG)⟩
theorem qt_tru (h : QE X e te me) (he : ∀ whole, isTrue e X.env whole = (do let v ← whole; standAt e.pos; holding [v] (truthy v)) := by intro _; rfl) : QT X e (fun σ H Q => te σ H fun x H' => ∃ k, TruV X.K x H' k ∧ Q k H') (bTru me) := ⟨pt_truth h.pe he, fun G hG => hG ▸ s_tru (h.sim G hG)⟩
theorem qt_lt (ha : QE X a ta ma) (hb : QE X b tb mb) : QT X (.Compare a [.Lt] [b] pos) (tTest (tOp (rI0 fun i j => .bl (decide (i < j))) ta tb)) (bTest (eOp fLt ma mb)) := ⟨pt_cmpR op_lt ha.pe hb.pe (nomark _), fun G h => s_test (s_op r_lt (ha.sim G h) (hb.sim G h))⟩
theorem qt_le (ha : QE X a ta ma) (hb : QE X b tb mb) : QT X (.Compare a [.LtE] [b] pos) (tTest (tOp (rI0 fun i j => .bl (decide (i ≤ j))) ta tb)) (bTest (eOp fLe ma mb)) := ⟨pt_cmpR op_le ha.pe hb.pe (nomark _), fun G h => s_test (s_op r_le (ha.sim G h) (hb.sim G h))⟩
theorem qt_gt (ha : QE X a ta ma) (hb : QE X b tb mb) : QT X (.Compare a [.Gt] [b] pos) (tTest (tOp (rI0 fun i j => .bl (decide (j < i))) ta tb)) (bTest (eOp fGt ma mb)) := ⟨pt_cmpR op_gt ha.pe hb.pe (nomark _), fun G h => s_test (s_op r_gt (ha.sim G h) (hb.sim G h))⟩
theorem qt_ge (ha : QE X a ta ma) (hb : QE X b tb mb) : QT X (.Compare a [.GtE] [b] pos) (tTest (tOp (rI0 fun i j => .bl (decide (j ≤ i))) ta tb)) (bTest (eOp fGe ma mb)) := ⟨pt_cmpR op_ge ha.pe hb.pe (nomark _), fun G h => s_test (s_op r_ge (ha.sim G h) (hb.sim G h))⟩
theorem qt_eq {k : Nat} (hr : Room k X.A) (ha : QE X a ta ma) (hb : QE X b tb mb) : QT X (.Compare a [.Eq] [b] pos) (tTest (tOp (rEqD X.K) ta tb)) (bTest (eOp (opEq false) ma mb)) := ⟨pt_cmpR (op_eqD hr.units) ha.pe hb.pe (nomark _), fun G h => h ▸ s_test (s_op r_eq (ha.sim G h) (hb.sim G h))⟩
theorem qt_ne {k : Nat} (hr : Room k X.A) (ha : QE X a ta ma) (hb : QE X b tb mb) : QT X (.Compare a [.NotEq] [b] pos) (tTest (tOp (rNeD X.K) ta tb)) (bTest (eOp (opEq true) ma mb)) := ⟨pt_cmpR (op_neD hr.units) ha.pe hb.pe (nomark _), fun G h => h ▸ s_test (s_op r_ne (ha.sim G h) (hb.sim G h))⟩
theorem qt_in (ha : QE X a ta ma) (hb : QE X b tb mb) (hm : behindInMarks .In b = false := by rfl) : QT X (.Compare a [.In] [b] pos) (tTest (tOp (rIn X.K false) ta tb)) (bTest (eOp (fIn false) ma mb)) := ⟨pt_cmpR op_in_seq ha.pe hb.pe hm, fun G h => h ▸ s_test (s_op (r_in false) (ha.sim G h) (hb.sim G h))⟩
theorem qt_notin (ha : QE X a ta ma) (hb : QE X b tb mb) (hm : behindInMarks .NotIn b = false := by rfl) : QT X (.Compare a [.NotIn] [b] pos) (tTest (tOp (rIn X.K true) ta tb)) (bTest (eOp (fIn true) ma mb)) := ⟨pt_cmpR op_notIn_seq ha.pe hb.pe hm, fun G h => h ▸ s_test (s_op (r_in true) (ha.sim G h) (hb.sim G h))⟩
theorem qt_isN (ha : QE X a ta ma) (hb : QE X b tb mb) : QT X (.Compare a [.Is] [b] pos) (tTest (tOp (fun x y H Q => y = .non ∧ Q (.bl (decide (x = .non))) H) ta tb)) (bTest (eOp (fIsN false) ma mb)) := ⟨pt_cmpR op_isN ha.pe hb.pe (nomark _), fun G h => s_test (s_op r_isN (ha.sim G h) (hb.sim G h))⟩
theorem qt_notN (ha : QE X a ta ma) (hb : QE X b tb mb) : QT X (.Compare a [.IsNot] [b] pos) (tTest (tOp (fun x y H Q => y = .non ∧ Q (.bl (!decide (x = .non))) H) ta tb)) (bTest (eOp (fIsN true) ma mb)) := ⟨pt_cmpR op_notN ha.pe hb.pe (nomark _), fun G h => s_test (s_op r_notN (ha.sim G h) (hb.sim G h))⟩
theorem qt_chain {op op' : CmpOp} {r r' : R2} {f g : U → U → Sto → Res U} (h1 : CR2 X op r f) (h2 : CR2 X op' r' g) (ha : QE X a ta ma) (hb : QE X b tb mb) (hc : QE X c tc mc) (hm : lastMarks [op, op'] [b, c] = false := by with_unfolding_all rfl) : QT X (.Compare a [op, op'] [b, c] pos) (tTest (tChain r r' ta tb tc)) (bTest (eChain f g ma mb mc)) :=
  ⟨pt_chain h1.op h2.op ha.pe hb.pe hc.pe hm, fun G h => s_test (s_chain (h1.sim G) (h2.sim G) (ha.sim G h) (hb.sim G h) (hc.sim G h))⟩
theorem qt_not (ha : QT X a t mt) : QT X (.UnaryOp .Not a pos) (tNot t) (bNot mt) := ⟨pt_not ha.pt, fun G h => s_not (ha.sim G h)⟩
theorem qw_and1 (ha : QT X a t mt) : QW X (.BoolOp .And [a] pos) t mt := ⟨pw_and1 ha.pt, ha.sim⟩
theorem qw_or1 (ha : QT X a t mt) : QW X (.BoolOp .Or [a] pos) t mt := ⟨pw_or1 ha.pt, ha.sim⟩
theorem qw_and (ha : QT X a t mt) (hb : QW X (.BoolOp .And (b :: es) pos) u mu) : QW X (.BoolOp .And (a :: b :: es) pos) (tAnd t u) (bAnd mt mu) := ⟨pw_and ha.pt hb.pw, fun G h => s_and (ha.sim G h) (hb.sim G h)⟩
theorem qw_or (ha : QT X a t mt) (hb : QW X (.BoolOp .Or (b :: es) pos) u mu) : QW X (.BoolOp .Or (a :: b :: es) pos) (tOr t u) (bOr mt mu) := ⟨pw_or ha.pt hb.pw, fun G h => s_or (ha.sim G h) (hb.sim G h)⟩
theorem qt_w (h : QW X e t mt) : QT X e t mt := ⟨h.pw.pt, h.sim⟩
/-! as values -/
theorem q_one {op : BoolOp} (h : QE X a ta ma) : QE X (.BoolOp op [a] pos) ta ma := ⟨pe_one h.pe, h.sim⟩
theorem q_and (ha : QE X a ta ma) (hb : QE X (.BoolOp .And (b :: es) pos) tb mb) : QE X (.BoolOp .And (a :: b :: es) pos) (tAndV ta tb) (eAndV ma mb) := ⟨pe_and ha.pe hb.pe, fun G h => s_andV (ha.sim G h) (hb.sim G h)⟩
theorem q_or (ha : QE X a ta ma) (hb : QE X (.BoolOp .Or (b :: es) pos) tb mb) : QE X (.BoolOp .Or (a :: b :: es) pos) (tOrV ta tb) (eOrV ma mb) := ⟨pe_or ha.pe hb.pe, fun G h => s_orV (ha.sim G h) (hb.sim G h)⟩
theorem q_not (ha : QE X a ta ma) : QE X (.UnaryOp .Not a pos) (tNotV ta) (eNotV ma) := ⟨pe_not ha.pe, fun G h => s_notV (ha.sim G h)⟩
theorem q_if (hc : QT X c t mt) (ha : QE X a ta ma) (hb : QE X b tb mb) : QE X (.IfExp c a b pos) (tIf t ta tb) (eIf mt ma mb) := ⟨pe_ifExp hc.pt ha.pe hb.pe, fun G h => s_if (hc.sim G h) (ha.sim G h) (hb.sim G h)⟩
/-! arguments, displays -/
theorem qa_nil : QA X [] tNil aNil := ⟨pa_nil, fun _ _ => s_nil⟩
theorem qa_cons (ha : QE X e te me) (hr : QA X es tA mA) (hs : starEach (e :: es) X.env = (false, eval e X.env) :: starEach es X.env := by rfl) : QA X (e :: es) (tCons te tA) (aCons me mA) := ⟨pa_cons ha.pe hr.pa hs, fun G h => s_cons (ha.sim G h) (hr.sim G h)⟩
theorem q_tup {x1} (h : QA X es tA mA) : QE X (.Tuple es x1 pos) (tTup tA) (eTup mA) := ⟨pe_tup h.pa, fun G hG => s_tup (h.sim G hG)⟩
theorem qn_disp (h : QA X es tA mA) : QN X (.List es pos) (tLst tA) (lDisp mA) := ⟨pe_lst h.pa, fun G hG => n_disp (h.sim G hG)⟩
theorem q_frz {m : ML} (h : QN X e te m) : QE X e te (eFrz m) := ⟨h.pe, fun G hG => s_frz (h.sim G hG)⟩
theorem q_own {m : ML} (h : QN X e te m) : QE X e te (eOwn m) := ⟨h.pe, fun G hG => s_own (h.sim G hG)⟩
/-! items, slices -/
theorem q_ix (ha : QE X a ta ma) (hb : QE X b tb mb) (hs : PlainIx b := by exact fun _ _ => rfl) : QE X (.Subscript a b pos) (tOp (rIx X.K) ta tb) (eOp fIx ma mb) := ⟨pe_ix ix_seq ha.pe hb.pe hs, fun G h => h ▸ s_op r_ix (ha.sim G h) (hb.sim G h)⟩
theorem qo_none : QO X none tNoPart oNone := ⟨po_none, fun _ _ => s_oNone⟩
theorem qo_some (h : QE X e te me) : QO X (some e) (tPart te) (oSome me) := ⟨po_some h.pe, fun G hG => s_oSome (h.sim G hG)⟩
theorem qn_sl {lo hi : Option Expr} {tl th : TO} {ml mh : MO} (he : QE X e te me) (hl : QO X lo tl ml) (hh : QO X hi th mh) : QN X (.Subscript e (.Slice lo hi none pos2) pos) (tSl (rSlL X.K) te tl th) (lSl me ml mh) := ⟨pe_slice sl_list he.pe hl.po hh.po, fun G h => h ▸ n_sl (he.sim G h) (hl.sim G h) (hh.sim G h)⟩
theorem q_slT {lo hi : Option Expr} {tl th : TO} {ml mh : MO} (he : QE X e te me) (hl : QO X lo tl ml) (hh : QO X hi th mh) : QE X (.Subscript e (.Slice lo hi none pos2) pos) (tSl (rSlA X.K) te tl th) (eSlT me ml mh) := ⟨pe_slice sl_tupA he.pe hl.po hh.po, fun G h => h ▸ s_slT (he.sim G h) (hl.sim G h) (hh.sim G h)⟩
/-! builtins -/
theorem q_len (hm : X.mg "len" = none) (h : QA X [e] tA mA) (hg : Gl X "len" := by rfl) (he : starEach (e :: []) X.env = (false, eval e X.env) :: starEach [] X.env := by rfl) (hpl : (backTo pos (starEach [] X.env)).any (·.1) = false := by rfl) : QE X (.Call (.Name "len" p) [e] [] pos) (tCB (fun xs H Q => ∃ x n, xs = [x] ∧ LenV X.K x H n ∧ Q (.int n) H) tA) (eCB cLen mA) :=
  ⟨pe_callB call_len hg hm PySem.boot_len h.pa (by decide) (by decide) he hpl, fun G hG => hG ▸ s_cb c_len (h.sim G hG)⟩
theorem q_abs (hm : X.mg "abs" = none) (h : QA X [e] tA mA) (hg : Gl X "abs" := by rfl) (he : starEach (e :: []) X.env = (false, eval e X.env) :: starEach [] X.env := by rfl) (hpl : (backTo pos (starEach [] X.env)).any (·.1) = false := by rfl) : QE X (.Call (.Name "abs" p) [e] [] pos) (tCB (fun xs H Q => ∃ i, xs = [.int i] ∧ Q (.int (if i < 0 then -i else i)) H) tA) (eCB cAbs mA) :=
  ⟨pe_callB call_abs hg hm boot_abs h.pa (by decide) (by decide) he hpl, fun G hG => s_cb c_abs (h.sim G hG)⟩
theorem q_intc (hm : X.mg "int" = none) (h : QA X [e] tA mA) (hg : Gl X "int" := by rfl) (he : starEach (e :: []) X.env = (false, eval e X.env) :: starEach [] X.env := by rfl) (hpl : (backTo pos (starEach [] X.env)).any (·.1) = false := by rfl) : QE X (.Call (.Name "int" p) [e] [] pos) (tCB (fun xs H Q => (∃ i, xs = [.int i] ∧ Q (.int i) H) ∨ ∃ k, xs = [.bl k] ∧ Q (.int (if k then 1 else 0)) H) tA) (eCB cInt mA) :=
  ⟨pe_callTy call_int1 hg hm boot_int h.pa (by decide) (by decide) he hpl, fun G hG => s_cb c_int (h.sim G hG)⟩
theorem q_max2 (hc : X.calm = true) (hm : X.mg "max" = none) (h : QA X [a, b] tA mA) (hg : Gl X "max" := by rfl) (he : starEach (a :: [b]) X.env = (false, eval a X.env) :: starEach [b] X.env := by rfl) (hpl : (backTo pos (starEach [b] X.env)).any (·.1) = false := by rfl) : QE X (.Call (.Name "max" p) [a, b] [] pos) (tCB (fun xs H Q => ∃ i j, xs = [.int i, .int j] ∧ Q (.int (if j > i then j else i)) H) tA) (eCB cMax2 mA) :=
  ⟨pe_callB (call_max2 hc) hg hm boot_max h.pa (by decide) (by decide) he hpl, fun G hG => s_cb c_max2 (h.sim G hG)⟩
theorem q_min2 (hc : X.calm = true) (hm : X.mg "min" = none) (h : QA X [a, b] tA mA) (hg : Gl X "min" := by rfl) (he : starEach (a :: [b]) X.env = (false, eval a X.env) :: starEach [b] X.env := by rfl) (hpl : (backTo pos (starEach [b] X.env)).any (·.1) = false := by rfl) : QE X (.Call (.Name "min" p) [a, b] [] pos) (tCB (fun xs H Q => ∃ i j, xs = [.int i, .int j] ∧ Q (.int (if j < i then j else i)) H) tA) (eCB cMin2 mA) :=
  ⟨pe_callB (call_min2 hc) hg hm boot_min h.pa (by decide) (by decide) he hpl, fun G hG => s_cb c_min2 (h.sim G hG)⟩
theorem q_maxL (hc : X.calm = true) (hm : X.mg "max" = none) (h : QA X [e] tA mA) (hg : Gl X "max" := by rfl) (he : starEach (e :: []) X.env = (false, eval e X.env) :: starEach [] X.env := by rfl) (hpl : (backTo pos (starEach [] X.env)).any (·.1) = false := by rfl) : QE X (.Call (.Name "max" p) [e] [] pos) (tCB (rMax X.K) tA) (eCB cMaxL mA) :=
  ⟨pe_callB (cr_max hc) hg hm boot_max h.pa (by decide) (by decide) he hpl, fun G hG => hG ▸ s_cb c_maxL (h.sim G hG)⟩
theorem q_minL (hc : X.calm = true) (hm : X.mg "min" = none) (h : QA X [e] tA mA) (hg : Gl X "min" := by rfl) (he : starEach (e :: []) X.env = (false, eval e X.env) :: starEach [] X.env := by rfl) (hpl : (backTo pos (starEach [] X.env)).any (·.1) = false := by rfl) : QE X (.Call (.Name "min" p) [e] [] pos) (tCB (rMin X.K) tA) (eCB cMinL mA) :=
  ⟨pe_callB (cr_min hc) hg hm boot_min h.pa (by decide) (by decide) he hpl, fun G hG => hG ▸ s_cb c_minL (h.sim G hG)⟩
theorem q_sum (hc : X.calm = true) (hm : X.mg "sum" = none) (h : QA X [e] tA mA) (hg : Gl X "sum" := by rfl) (he : starEach (e :: []) X.env = (false, eval e X.env) :: starEach [] X.env := by rfl) (hpl : (backTo pos (starEach [] X.env)).any (·.1) = false := by rfl) : QE X (.Call (.Name "sum" p) [e] [] pos) (tCB (rSum X.K) tA) (eCB cSum mA) :=
  ⟨pe_callB (cr_sum hc) hg hm (by decide +kernel) h.pa (by decide) (by decide) he hpl, fun G hG => hG ▸ s_cb c_sum (h.sim G hG)⟩
theorem q_all (hc : X.calm = true) (hm : X.mg "all" = none) (h : QA X [e] tA mA) (hg : Gl X "all" := by rfl) (he : starEach (e :: []) X.env = (false, eval e X.env) :: starEach [] X.env := by rfl) (hpl : (backTo pos (starEach [] X.env)).any (·.1) = false := by rfl) : QE X (.Call (.Name "all" p) [e] [] pos) (tCB (rAll X.K) tA) (eCB cAll mA) :=
  ⟨pe_callB (cr_all hc) hg hm (by decide +kernel) h.pa (by decide) (by decide) he hpl, fun G hG => hG ▸ s_cb c_all (h.sim G hG)⟩
theorem q_any (hc : X.calm = true) (hm : X.mg "any" = none) (h : QA X [e] tA mA) (hg : Gl X "any" := by rfl) (he : starEach (e :: []) X.env = (false, eval e X.env) :: starEach [] X.env := by rfl) (hpl : (backTo pos (starEach [] X.env)).any (·.1) = false := by rfl) : QE X (.Call (.Name "any" p) [e] [] pos) (tCB (rAny X.K) tA) (eCB cAny mA) :=
  ⟨pe_callB (cr_any hc) hg hm (by decide +kernel) h.pa (by decide) (by decide) he hpl, fun G hG => hG ▸ s_cb c_any (h.sim G hG)⟩
theorem qn_list (hm : X.mg "list" = none) (h : QA X [e] tA mA) (hg : Gl X "list" := by rfl) (he : starEach (e :: []) X.env = (false, eval e X.env) :: starEach [] X.env := by rfl) (hpl : (backTo pos (starEach [] X.env)).any (·.1) = false := by rfl) : QN X (.Call (.Name "list" p) [e] [] pos) (tCB (fun xs H Q => ∃ p ys, xs = [.ref p] ∧ (SqL X.K H p ys ∨ SqT X.K H p ys) ∧ ∀ l, H l = none → Q (.ref l) (upd H l (.lst ys))) tA) (lCB cListOf mA) :=
  ⟨pe_callTy call_list_of hg hm boot_list h.pa (by decide) (by decide) he hpl, fun G hG => hG ▸ n_cb c_listOf (h.sim G hG)⟩
theorem q_tuple (hm : X.mg "tuple" = none) (h : QA X [e] tA mA) (hg : Gl X "tuple" := by rfl) (he : starEach (e :: []) X.env = (false, eval e X.env) :: starEach [] X.env := by rfl) (hpl : (backTo pos (starEach [] X.env)).any (·.1) = false := by rfl) : QE X (.Call (.Name "tuple" p) [e] [] pos) (tCB (fun xs H Q => ∃ p ys, xs = [.ref p] ∧ ((SqL X.K H p ys ∧ ∀ l, H l = none → Q (.ref l) (upd H l (.tup ys))) ∨ (SqT X.K H p ys ∧ Q (.ref p) H))) tA) (eCB cTupOf mA) :=
  ⟨pe_callTy call_tuple_of hg hm boot_tuple h.pa (by decide) (by decide) he hpl, fun G hG => hG ▸ s_cb c_tupOf (h.sim G hG)⟩
theorem q_isi {T : String} {x : Str} {p3 : Pos} (hm : X.mg "isinstance" = none) (hT : X.mg x = none) (hv : bootBuiltins x = some (.type T)) (h : QE X e te me) (hg : Gl X "isinstance" := by rfl) (hgx : Gl X x := by rfl) (hnx : x ≠ "__name__" := by decide) (hdx : (x == ("__debug__" : Str)) = false := by decide)
    (he : starEach (e :: [.Name x p3]) X.env = (false, eval e X.env) :: starEach [.Name x p3] X.env := by rfl) (he2 : starEach ((.Name x p3) :: []) X.env = (false, eval (.Name x p3) X.env) :: starEach [] X.env := by rfl) (hpl : (backTo pos (starEach [.Name x p3] X.env)).any (·.1) = false := by rfl) :
    QE X (.Call (.Name "isinstance" p) [e, .Name x p3] [] pos) (tCB (rIsi X.K) (tCons te (tCons (tC (.ty T)) tNil))) (eIsi me T) :=
  ⟨pe_callB call_isi hg hm boot_isinstance (pa_cons h.pe (pa_cons (pe_bltn (v := .ty T) hgx hT hv rfl hnx hdx) pa_nil he2) he) (by decide) (by decide) he hpl, fun G hG => hG ▸ s_isi (h.sim G hG)⟩
/-- a tuple of types -/
structure QTys (X : Cx) (es : List Expr) (Ts : List String) : Prop where
  pa : PA X es (tTys Ts)
theorem qty_nil : QTys X [] [] := ⟨pa_nil⟩
theorem qty_cons {T : String} {x : Str} {p3 : Pos} {Ts : List String} (hT : X.mg x = none) (hv : bootBuiltins x = some (.type T)) (h : QTys X es Ts) (hgx : Gl X x := by rfl) (hnx : x ≠ "__name__" := by decide) (hdx : (x == ("__debug__" : Str)) = false := by decide)
    (hs : starEach (.Name x p3 :: es) X.env = (false, eval (.Name x p3) X.env) :: starEach es X.env := by rfl) : QTys X (.Name x p3 :: es) (T :: Ts) := ⟨pa_cons (pe_bltn (v := .ty T) hgx hT hv rfl hnx hdx) h.pa hs⟩
theorem q_isiT {Ts : List String} {x1 : Nat} {p3 : Pos} (hm : X.mg "isinstance" = none) (h : QE X e te me) (hT : QTys X es Ts) (hg : Gl X "isinstance" := by rfl)
    (he : starEach (e :: [.Tuple es x1 p3]) X.env = (false, eval e X.env) :: starEach [.Tuple es x1 p3] X.env := by rfl) (he2 : starEach ((.Tuple es x1 p3) :: []) X.env = (false, eval (.Tuple es x1 p3) X.env) :: starEach [] X.env := by rfl) (hpl : (backTo pos (starEach [.Tuple es x1 p3] X.env)).any (·.1) = false := by rfl) :
    QE X (.Call (.Name "isinstance" p) [e, .Tuple es x1 p3] [] pos) (tCB (rIsiT X.K) (tCons te (tCons (tTup (tTys Ts)) tNil))) (eIsiT me Ts) :=
  ⟨pe_callB call_isiT hg hm boot_isinstance (pa_cons h.pe (pa_cons (pe_tup hT.pa) pa_nil he2) he) (by decide) (by decide) he hpl, fun G hG => hG ▸ s_isiT (h.sim G hG)⟩
/-! list methods -/
theorem q_append {apos : Pos} (ho : QE X o to mo) (ha : QA X [e] tA mA) (hbase : attributeBase o "append" X.env (eval o X.env) = eval o X.env := by rfl)
    (hfew : ((backTo pos (starEach (e :: []) X.env)).all (fun x => !x.1) && (backToKw pos (keywordEach [] X.env)).all (fun x => x.1.isSome) && decide ((e :: []).length + ([] : List Keyword).length + (if ([] : List Keyword).isEmpty then 0 else 1) < 30)) = true := by rfl)
    (hline : (apos.endLine == pos.line) = true := by rfl) (hs : starEach (e :: []) X.env = (false, eval e X.env) :: starEach [] X.env := by rfl) (hplain : (backTo pos (starEach [] X.env)).any (·.1) = false := by rfl) :
    QE X (.Call (.Attribute o "append" apos) [e] [] pos) (tBM X.K "list" rAppend to tA) (eMethL mAppend mo mA) :=
  ⟨pe_bm PySem.F.plainAttrs_list PySem.F.slot_list_append PySem.F.type_list_append mt_append ho.pe ha.pa hbase hfew hline hs hplain, fun G hG => hG ▸ s_methL m_append (ho.sim G hG) (ha.sim G hG)⟩
theorem q_extend {apos : Pos} (ho : QE X o to mo) (ha : QA X [e] tA mA) (hbase : attributeBase o "extend" X.env (eval o X.env) = eval o X.env := by rfl)
    (hfew : ((backTo pos (starEach (e :: []) X.env)).all (fun x => !x.1) && (backToKw pos (keywordEach [] X.env)).all (fun x => x.1.isSome) && decide ((e :: []).length + ([] : List Keyword).length + (if ([] : List Keyword).isEmpty then 0 else 1) < 30)) = true := by rfl)
    (hline : (apos.endLine == pos.line) = true := by rfl) (hs : starEach (e :: []) X.env = (false, eval e X.env) :: starEach [] X.env := by rfl) (hplain : (backTo pos (starEach [] X.env)).any (·.1) = false := by rfl) :
    QE X (.Call (.Attribute o "extend" apos) [e] [] pos) (tBM X.K "list" rExtend to tA) (eMethL mExtend mo mA) :=
  ⟨pe_bm PySem.F.plainAttrs_list PySem.F.slot_list_extend PySem.F.type_list_extend mt_extend ho.pe ha.pa hbase hfew hline hs hplain, fun G hG => hG ▸ s_methL m_extend (ho.sim G hG) (ha.sim G hG)⟩
theorem q_pop {apos : Pos} (ho : QE X o to mo) (hbase : attributeBase o "pop" X.env (eval o X.env) = eval o X.env := by rfl) (hline : (apos.endLine == pos.line) = true := by rfl) :
    QE X (.Call (.Attribute o "pop" apos) [] [] pos) (tBM0 X.K "list" rPop to) (eMethL mPop mo aNil) :=
  ⟨pe_bm0 PySem.F.plainAttrs_list PySem.F.slot_list_pop PySem.F.type_list_pop mt_pop ho.pe hbase hline, fun G hG => hG ▸ s_methL0 m_pop (ho.sim G hG)⟩
theorem q_clear {apos : Pos} (ho : QE X o to mo) (hbase : attributeBase o "clear" X.env (eval o X.env) = eval o X.env := by rfl) (hline : (apos.endLine == pos.line) = true := by rfl) :
    QE X (.Call (.Attribute o "clear" apos) [] [] pos) (tBM0 X.K "list" rClear to) (eMethL mClear mo aNil) :=
  ⟨pe_bm0 PySem.F.plainAttrs_list PySem.F.slot_list_clear PySem.F.type_list_clear mt_clear ho.pe hbase hline, fun G hG => hG ▸ s_methL0 m_clear (ho.sim G hG)⟩
/-! calls of defs -/
theorem q_callP {k n : Nat} {f : Addr} {fd : FuncData} {ps : List Str} {m : List PyData → Rp} {x : Str} (F : FnOk X.prog X.w X.K X.mg X.base CX0 k f fd ps (spP X.K n m)) (hr : Room k X.A) (hm : X.mg x = some (.ref f)) (hk : PySem.W.keepIn X.K (.ref f) = true) (hb : Binds X.K fd ps [])
    (ha : QA X (e :: es) tA mA) (hg : Gl X x := by rfl) (hdb : (x == ("__debug__" : Str)) = false := by decide) (he : starEach (e :: es) X.env = (false, eval e X.env) :: starEach es X.env := by rfl) (hpl : (backTo pos (starEach es X.env)).any (·.1) = false := by rfl) :
    QE X (.Call (.Name x p) (e :: es) [] pos) (tCall (spP X.K n m) [] E0 tA) (eCallP n m mA) :=
  ⟨pe_call F hr hg hm hk hb .nil pass0 ha.pa hdb he hpl, fun G hG => hG ▸ s_callP (ha.sim G hG)⟩
theorem q_callF {k n : Nat} {f : Addr} {fd : FuncData} {ps : List Str} {m : List PyData → Fl → Rf} {x : Str} (F : FnOk X.prog X.w X.K X.mg X.base CX0 k f fd ps (spF X.K n m)) (hr : Room k X.A) (hm : X.mg x = some (.ref f)) (hk : PySem.W.keepIn X.K (.ref f) = true) (hb : Binds X.K fd ps [])
    (ha : QA X (e :: es) tA mA) (hg : Gl X x := by rfl) (hdb : (x == ("__debug__" : Str)) = false := by decide) (he : starEach (e :: es) X.env = (false, eval e X.env) :: starEach es X.env := by rfl) (hpl : (backTo pos (starEach es X.env)).any (·.1) = false := by rfl) :
    QE X (.Call (.Name x p) (e :: es) [] pos) (tCall (spF X.K n m) [] E0 tA) (eCallF n m mA) :=
  ⟨pe_call F hr hg hm hk hb .nil pass0 ha.pa hdb he hpl, fun G hG => hG ▸ s_callF (ha.sim G hG)⟩
end
end NW

namespace NW
open PySem PySem.Spec PyProof.Rows L2
section
variable {X : Cx} {a b c e o i tg : Expr} {es : List Expr} {pos p p2 pos2 : Pos} {ta tb tc te to ti : TE} {ma mb mc me mo mi : ME} {t u : TT} {mt mu : MB} {tA : TA} {mA : MA}
/-! what is walked -/
theorem qi_any (h : QE X e te me) : QI X tg e (iAny X.K te) (mAny me) := ⟨pi_any h.pe, fun G hG => hG ▸ i_any (h.sim G hG)⟩
theorem qi_r1 (hm : X.mg "range" = none) (h : QA X [a] tA mA) (hg : Gl X "range" := by rfl) (hs : starEach [a] X.env = [(false, eval a X.env)] := by rfl) : QI X tg (.Call (.Name "range" p) [a] [] pos) (iRng1 tA) (mR1 mA) := ⟨pi_range1 hg hm h.pa hs, fun G hG => i_r1 (h.sim G hG)⟩
theorem qi_r2 (hm : X.mg "range" = none) (h : QA X [a, b] tA mA) (hg : Gl X "range" := by rfl) (hs : starEach [a, b] X.env = [(false, eval a X.env), (false, eval b X.env)] := by rfl) (hs2 : starEach [b] X.env = [(false, eval b X.env)] := by rfl) : QI X tg (.Call (.Name "range" p) [a, b] [] pos) (iRng2 tA) (mR2 mA) := ⟨pi_range2 hg hm h.pa hs hs2, fun G hG => i_r2 (h.sim G hG)⟩
theorem qi_rev (hm : X.mg "reversed" = none) (h : QE X e te me) (hg : Gl X "reversed" := by rfl) (hs : starEach [e] X.env = (false, eval e X.env) :: starEach [] X.env := by rfl) : QI X tg (.Call (.Name "reversed" p) [e] [] pos) (_root_.RT.iRevA X.K te) (mRev me) := ⟨_root_.RT.pi_revA hg hm h.pe hs, fun G hG => hG ▸ i_rev (h.sim G hG)⟩
/-! targets -/
theorem qg_name (i : Nat) {x : Str} (hN : X.N.Nodup) (hi : X.N[i]? = some x := by rfl) (hx : L2.Loc X.env.scope x := by first | exact Or.inl rfl | exact Or.inr rfl) (hf : X.fn x = true ∨ X.env.scope.names.lookup x = some .local := by first | exact .inl rfl | exact .inr rfl) : QG X [i] (.Name x pos) (gName i) (gNameM i) := ⟨pg_name hN hi hx hf, fun G _ => g_name i⟩
theorem qgs_nil : QGs X [] [] gNil gNilM := ⟨pgs_nil, fun _ _ => g_nil, gNil_noEx⟩
theorem qgs_cons {vs ws : List Nat} {g : TG} {gs : TGs} {m : MT} {ms : MTs} (h1 : QG X vs e g m) (n1 : ∀ u l st, (m u l st).noEx) (h2 : QGs X ws es gs ms) (hs : (assignEach (e :: es) X.env).map (·.2) = assign e X.env :: (assignEach es X.env).map (·.2) := by rfl) : QGs X (vs ++ ws) (e :: es) (gCons g gs) (gConsM m ms) :=
  ⟨pgs_cons h1.pg h2.pgs hs, fun G h => g_cons (h1.sim G h) (h2.sim G h) h2.ne, gCons_noEx n1 h2.ne⟩
theorem qg_tup {vs : List Nat} {gs : TGs} {ms : MTs} {k : Nat} {n : Nat} (hc : X.calm = true) (h : QGs X vs es gs ms) (hn : (assignEach es X.env).length = n := by rfl) (hst : (assignEach es X.env).findIdx? (·.1) = none := by rfl) : QG X vs (.Tuple es k pos) (gTup X.K n gs) (gTupM n ms) := ⟨pg_tup hc h.pgs hn hst, fun G hG => hG ▸ g_tup (h.sim G hG)⟩
theorem qg_sub (ho : QE X o to mo) (hi : QE X i ti mi) (ha : ∀ v, assign (.Subscript o i pos) X.env v = (do
      let ov ← holding [v] (eval o X.env)
      let iv ← holding [v, ov] (eval i X.env)
      standAt pos
      holding [v, ov, iv] (setItem ov iv v)
      release [v, ov, iv] []) := by intro _; rfl) : QG X [] (.Subscript o i pos) (gSub to ti rSetL) (gSubM mo mi) := ⟨pg_sub ho.pe hi.pe set_list ha, fun G hG => g_sub (ho.sim G hG) (hi.sim G hG)⟩
/-! statements -/
variable {s : Stmt} {rest body : List Stmt} {ts us : TS} {m n : MS}
theorem qss_nil : QSs X [] tNext sNext := ⟨pss_nil, fun _ _ => t_next⟩
theorem qss_cons (h1 : QS X s ts m) (h2 : QSs X rest us n) : QSs X (s :: rest) (tSeq ts us) (sSeq m n) := ⟨pss_cons h1.ps h2.pss, fun G h => t_seq (h1.sim G h) (h2.sim G h)⟩
theorem qss_one (h1 : QS X s ts m) : QSs X [s] ts m := ⟨pss_one h1.ps, h1.sim⟩
theorem qs_set (i : Nat) {x : Str} (hN : X.N.Nodup) (he : QE X e te me) (hi : X.N[i]? = some x := by rfl) (hx : L2.Loc X.env.scope x := by first | exact Or.inl rfl | exact Or.inr rfl) (hs : swapsWith e (some (.Name x p2)) pos.line X.env = pure false := by rfl)
    (hf : X.fn x = true ∨ X.env.scope.names.lookup x = some .local := by first | exact .inl rfl | exact .inr rfl) : QS X (.Assign [.Name x p2] e pos) (tAsg te (gName i)) (sAsg i me) := ⟨ps_set hN hi hx he.pe hs hf, fun G h => t_asg (he.sim G h)⟩
theorem qs_asg {vs : List Nat} {g : TG} {mg' : MT} (he : QE X e te me) (hg : QG X vs tg g mg') (hs : swapsWithSole [tg] e pos.line X.env = pure false := by rfl) (hw : swappedStores [tg] e X.env = pure none := by rfl) (h1 : (assignEach [tg] X.env).map (·.2) = [assign tg X.env] := by rfl) :
    QS X (.Assign [tg] e pos) (tAsg te g) (sAsgG me mg') := ⟨ps_asg he.pe hg.pg hs hw h1, fun G h => t_asgG (he.sim G h) (hg.sim G h)⟩
theorem qs_par (i j : Nat) {x y : Str} {px py pt : Pos} {kt k2 : Nat} {pt2 : Pos} (hc : X.calm = true) (hN : X.N.Nodup) (ha : QA X [a, b] tA mA) (hij : i ≠ j := by decide) (hi : X.N[i]? = some x := by rfl) (hj : X.N[j]? = some y := by rfl) (hx : X.env.scope.names.lookup x = some .local := by rfl) (hy : X.env.scope.names.lookup y = some .local := by rfl)
    (hw : swappedStores [.Tuple [.Name x px, .Name y py] kt pt] (.Tuple [a, b] k2 pt2) X.env = pure (some [x, y]) := by rfl) (hs : swapsWithSole [.Tuple [.Name x px, .Name y py] kt pt] (.Tuple [a, b] k2 pt2) pos.line X.env = pure false := by rfl) :
    QS X (.Assign [.Tuple [.Name x px, .Name y py] kt pt] (.Tuple [a, b] k2 pt2) pos) (tPar i j tA) (sPar i j mA) := ⟨ps_par hc hN hi hj hij hx hy ha.pa hw hs, fun G h => t_par (ha.sim G h)⟩
theorem qs_expr (he : QE X e te me) (hs : swapsWith e none pos.line X.env = pure false := by rfl) : QS X (.Expr e pos) (tDrop te) (sDrop me) := ⟨ps_expr he.pe hs, fun G h => t_drop (he.sim G h)⟩
theorem qs_ret (he : QE X e te me) : QS X (.Return (some e) pos) (tRet te) (sRet me) := ⟨ps_ret he.pe, fun G h => t_ret (he.sim G h)⟩
theorem qs_retN : QS X (.Return none pos) tRetN sRetN := ⟨ps_retN, fun _ _ => t_retN⟩
theorem qs_pass : QS X (.Pass pos) tNext sNext := ⟨ps_pass, fun _ _ => t_next⟩
theorem qs_if {ct : TT} {cm : MB} {x y : List Stmt} (hc : QT X c ct cm) (ha : QSs X x ts m) (hb : QSs X y us n) : QS X (.If c x y pos) (tIfS ct ts us) (sIf cm m n) := ⟨ps_if hc.pt ha.pss hb.pss, fun G h => t_if (hc.sim G h) (ha.sim G h) (hb.sim G h)⟩
theorem qs_while {ct : TT} {cm : MB} (hp : PassesOwn (model X.prog X.w) X.A X.env X.xe) (hc : QT X c ct cm) (hb : QSs X body ts m) : QS X (.While c body [] pos) (tWhile ct ts) (sWhile cm m) := ⟨ps_while hp hc.pt hb.pss, fun G h => t_while (hc.sim G h) (hb.sim G h)⟩
theorem qs_for {wi : TI} {im : MI} {vs : List Nat} {g : TG} {gm : MT} (hp : PassesOwn (model X.prog X.w) X.A X.env X.xe) (hc : X.calm = true) (hi : QI X tg e wi im) (hg : QG X vs tg g gm) (hb : QSs X body ts m) (hs : ∀ x, foldedSetIterable e X.env x = pure x := by intro _; rfl) :
    QS X (.For tg e body [] pos) (tFor wi g ts) (sFor im gm m) := ⟨ps_for hp hc hi.pi hg.pg hb.pss hs, fun G h => t_for (hi.sim G h) (hg.sim G h) (hb.sim G h)⟩
/-! comprehensions -/
structure QTs (X : Cx) (ifs : List Expr) (t : TT) (m : MB) : Prop where
  pts : PTs X ifs t
  sim : ∀ G : Gx, G.K = X.K → SimT G t m
def bYes : MB := fun _ st => .ok true st
theorem qts_nil : QTs X [] tYes bYes := ⟨pts_nil, fun G _ β H σ l st re Q h => wpR_b re.rl h⟩
theorem qts_one (h : QT X c t mt) : QTs X [c] t mt := ⟨pts_one h.pt, h.sim⟩
theorem qn_lc {elt tg iter : Expr} {ifs : List Expr} {scope : Scope} (own : List (Str × Nat)) {wi : TI} {g : TG} {tt : TT} {te : TE} {im : MI} {ws : List Nat} {gm : MT} {cm : MB} {em : ME} (hc : X.calm = true) (hN : X.N.Nodup) (hi : QI X tg iter wi im)
    {N : List Str} {sc : Scope} (hNN : X.N = N) (hss : X.env.scope = sc) (ok : blkC N sc scope own = true)
    (hg : ∀ (s : Shared) (H : Hp) (C : Addr) (cl : List (Str × Addr)) (fp : List Addr), QG (X.blk s H scope (compEnvC scope cl C X.env) fp) ws tg g gm)
    (ht : ∀ (s : Shared) (H : Hp) (C : Addr) (cl : List (Str × Addr)) (fp : List Addr), QTs (X.blk s H scope (compEnvC scope cl C X.env) fp) ifs tt cm)
    (he : ∀ (s : Shared) (H : Hp) (C : Addr) (cl : List (Str × Addr)) (fp : List Addr), QE (X.blk s H scope (compEnvC scope cl C X.env) fp) elt te em)
    (hsub : ∀ i ∈ ws, i ∈ own.map (·.2)) (hs : ∀ x, foldedSetIterable iter X.env x = pure x := by intro _; rfl) :
    QN X (.ListComp elt [⟨tg, iter, ifs, 0⟩] scope pos) (tLc wi g tt te (own.map (·.2))) (lLc im (own.map (·.2)) gm cm em) :=
  ⟨pe_lc hc hN hi.pi (by rw [hNN, hss]; exact blkOk_by ok) (fun s H C cl fp => (hg s H C cl fp).pg) (fun s H C cl fp => (ht s H C cl fp).pts) (fun s H C cl fp => (he s H C cl fp).pe) hs,
    fun G h => n_lc (hi.sim G h) (fun D => (hg X.s_0 (fun _ => none) 0 [] []).sim (G.ban D) h) hsub (fun D => (ht X.s_0 (fun _ => none) 0 [] []).sim (G.ban D) h) (fun D => (he X.s_0 (fun _ => none) 0 [] []).sim (G.ban D) h)⟩
/-- y = [..] on one line: the statement of its own -/
theorem qs_setLc {elt tg iter : Expr} {ifs : List Expr} {scope : Scope} {y : Str} {py : Pos} (iy : Nat) (own : List (Str × Nat)) (fz : Bool) {wi : TI} {g : TG} {tt : TT} {te : TE} {im : MI} {ws : List Nat} {gm : MT} {cm : MB} {em : ME} (hc : X.calm = true) (hN : X.N.Nodup)
    (hsw : swapsWith (.ListComp elt [⟨tg, iter, ifs, 0⟩] scope pos) (some (.Name y py)) pos2.line X.env = pure true) (hi : QI X tg iter wi im)
    {N : List Str} {sc : Scope} (hNN : X.N = N) (hss : X.env.scope = sc) (ok : blkC N sc scope own = true)
    (hg : ∀ (s : Shared) (H : Hp) (C : Addr) (cl : List (Str × Addr)) (fp : List Addr), QG (X.blk s H scope (compEnvC scope cl C X.env) fp) ws tg g gm)
    (ht : ∀ (s : Shared) (H : Hp) (C : Addr) (cl : List (Str × Addr)) (fp : List Addr), QTs (X.blk s H scope (compEnvC scope cl C X.env) fp) ifs tt cm)
    (he : ∀ (s : Shared) (H : Hp) (C : Addr) (cl : List (Str × Addr)) (fp : List Addr), QE (X.blk s H scope (compEnvC scope cl C X.env) fp) elt te em)
    (hsub : ∀ i ∈ ws, i ∈ own.map (·.2)) (hyi : X.N[iy]? = some y := by rfl) (hyl : X.env.scope.names.lookup y = some .local := by rfl) (hs : ∀ x, foldedSetIterable iter X.env x = pure x := by intro _; rfl) :
    QS X (.Assign [.Name y py] (.ListComp elt [⟨tg, iter, ifs, 0⟩] scope pos) pos2) (tAsg (tLc wi g tt te (own.map (·.2))) (gName iy)) (sAsg iy (if fz = true then eFrz (lLc im (own.map (·.2)) gm cm em) else eOwn (lLc im (own.map (·.2)) gm cm em))) :=
  ⟨ps_setLc hc hN hyi hyl hsw hi.pi (by rw [hNN, hss]; exact blkOk_by ok) (fun s H C cl fp => (hg s H C cl fp).pg) (fun s H C cl fp => (ht s H C cl fp).pts) (fun s H C cl fp => (he s H C cl fp).pe) hs,
    fun G h => t_asg (by
      have z := n_lc (hi.sim G h) (fun D => (hg X.s_0 (fun _ => none) 0 [] []).sim (G.ban D) h) hsub (fun D => (ht X.s_0 (fun _ => none) 0 [] []).sim (G.ban D) h) (fun D => (he X.s_0 (fun _ => none) 0 [] []).sim (G.ban D) h)
      cases fz with
      | true => exact s_frz z
      | false => exact s_own z)⟩
end
end NW

namespace NW
open PySem PySem.Spec PyProof.Rows L2
section
variable {G : Gx} {β β' : List Addr} {st st' : Sto} {H H' : Hp} {v : V} {u : U} {σ σ' : L2.St} {l l' : Loc}
/-! ### + and * and slices of any kind -/
def rAddS : R2 := fun x y H Q => ∃ i j, x = .str i ∧ y = .str j ∧ i.length + j.length ≤ sizeLine ∧ Q (.str (i ++ j)) H
def rAddA (K : PySem.W.Frag) : R2 := fun x y H Q => (rI0 (fun i j => .int (i + j)) x y H Q ∨ rAddS x y H Q) ∨ (rCatA K x y H Q ∨ rCat x y H Q)
theorem op_addA {X : Cx} : OpR X (binaryOp .Add) (rAddA X.K) := (op_add.or op_add_str).or (op_catA.or op_cat)
def fAddA : U → U → Sto → Res U := fun a b st => match a, b with
  | .d (.int i), .d (.int j) => .ok (.d (.int (i + j))) st
  | .d (.str x), .d (.str y) => if lenOk (x.length + y.length) = true then .ok (.d (.str (x ++ y))) st else .no
  | .d (.tuple xs), .d (.tuple ys) => if lenOk (xs.length + ys.length) = true then .ok (.d (.tuple (xs ++ ys))) st else .no
  | a, b => (match listOf st a, listOf st b with
    | some xs, some ys => if lenOk (xs.length + ys.length) = true then .ok (.d (.list (xs ++ ys))) st else .no
    | _, _ => .no)
theorem r_addA : SimR G (rAddA G.K) fAddA := fun β H σ l st re x y a b Q hx hy h => by
  unfold fAddA at h
  split at h
  · rename_i i j
    cases ru_int hx; cases ru_int hy
    exact .inl (.inl ⟨i, j, rfl, rfl, wpR_d re.rl (.int _) h⟩)
  · rename_i i j
    cases ru_str hx; cases ru_str hy
    split at h
    · rename_i q
      exact .inl (.inr ⟨i, j, rfl, rfl, of_decide_eq_true q, wpR_d re.rl (.str _) h⟩)
    · exact h.elim
  · rename_i xs ys
    split at h
    · rename_i q
      obtain ⟨p, vs, rfl, s1, r1⟩ := tup_q hx (xs := xs) rfl
      obtain ⟨p', ws, rfl, s2, r2⟩ := tup_q hy (xs := ys) rfl
      refine .inr (.inl ⟨p, p', vs, ws, rfl, rfl, s1, s2, by rw [r1.len, r2.len]; exact of_decide_eq_true q, fun e => ?_, fun e1 e => ?_, fun e1 e2 z hz => ?_⟩)
      · subst e
        have e0 : xs = [] := by have := r1.len; simp at this; exact List.eq_nil_of_length_eq_zero this.symm
        subst e0
        exact wpR_u re.rl hy h
      · subst e
        have e0 : ys = [] := by have := r2.len; simp at this; exact List.eq_nil_of_length_eq_zero this.symm
        subst e0
        rw [List.append_nil] at h
        exact wpR_u re.rl hx h
      · obtain ⟨f4, rl4, rt⟩ := new_tup re.rl hz (r1.append r2)
        exact h _ _ β f4 rl4 rt
    · exact h.elim
  · split at h
    · rename_i xs ys e1 e2
      split at h
      · rename_i q
        obtain ⟨p, vs, rfl, h1, r1⟩ := list_h re.rl hx e1
        obtain ⟨p', ws, rfl, h2, r2⟩ := list_h re.rl hy e2
        refine .inr (.inr ⟨p, p', vs, ws, rfl, rfl, h1, h2, by rw [r1.len, r2.len]; exact of_decide_eq_true q, fun z hz => ?_⟩)
        obtain ⟨f4, rl4, rt⟩ := new_lst re.rl hz (r1.append r2)
        exact h _ _ β f4 rl4 rt
      · exact h.elim
    · exact h.elim
def rMulA : R2 := fun x y H Q => rI CMulW (fun i j => .int (i * j)) x y H Q ∨ rRep x y H Q
theorem op_mulA {X : Cx} : OpR X (binaryOp .Mult) rMulA := op_mulW.or op_rep
def fMulA : U → U → Sto → Res U := fun a b st => match a, b with
  | .d (.int i), .d (.int j) => if mulC i j = true then .ok (.d (.int (i * j))) st else .no
  | a, .d (.int k) => (match listOf st a with
    | some xs => if (decide (-(2 ^ 63) ≤ k ∧ k < 2 ^ 63) && lenOk (xs.length * k.toNat)) = true then .ok (.d (.list (List.replicate k.toNat xs).flatten)) st else .no
    | none => .no)
  | _, _ => .no
theorem r_mulA : SimR G rMulA fMulA := fun β H σ l st re x y a b Q hx hy h => by
  unfold fMulA at h
  split at h
  · rename_i i j
    cases ru_int hx; cases ru_int hy
    split at h
    · rename_i q
      have q' := of_decide_eq_true q
      exact .inl ⟨i, j, rfl, rfl, q', wpR_d re.rl (.int _) h⟩
    · exact h.elim
  · rename_i k _
    cases ru_int hy
    split at h
    · rename_i xs e1
      split at h
      · rename_i q
        rw [Bool.and_eq_true] at q
        obtain ⟨p, vs, rfl, h1, r1⟩ := list_h re.rl hx e1
        have q1 := of_decide_eq_true q.1
        refine .inr ⟨p, k, vs, rfl, rfl, h1, q1.1, q1.2, by rw [r1.len]; exact of_decide_eq_true q.2, fun z hz => ?_⟩
        obtain ⟨f4, rl4, rt⟩ := new_lst re.rl hz (rts_rep r1 _)
        exact h _ _ β f4 rl4 rt
      · exact h.elim
    · exact h.elim
  · exact h.elim
def rSlAny (K : PySem.W.Frag) : V → Option Int → Option Int → Hp → VK → Prop := fun x lo hi H Q => (rSlL K x lo hi H Q ∨ rSlA K x lo hi H Q) ∨ rSlS x lo hi H Q
theorem sl_any {X : Cx} : SlR X (rSlAny X.K) := (sl_list.or sl_tupA).or sl_str
def fSl (u : U) (a b : Option Int) (st : Sto) : Res U := match u with
  | .d (.tuple xs) => .ok (.d (.tuple (cutD xs a b))) st
  | .d (.str z) => if lenOk z.length = true then .ok (.d (.str (cutS z a b))) st else .no
  | u => (match listOf st u with
    | some xs => .ok (.d (.list (cutD xs a b))) st
    | none => .no)
def eSlAny (m : ME) (lo hi : MO) : ME := fun l st => (m l st).bind fun u st => (lo l st).bind fun a st => (hi l st).bind fun b st => fSl u a b st
theorem s_slAny {t : TE} {tl th : TO} {m : ME} {lo hi : MO} (h : SimE G t m) (h1 : SimO G tl lo) (h2 : SimO G th hi) : SimE G (tSl (rSlAny G.K) t tl th) (eSlAny m lo hi) := fun β H σ l st re Q q => by
  refine h β H σ l st re _ (wpR_bind q fun v u H1 β1 st1 f1 rl1 p1 q1 => ?_)
  have re1 := f1.re rl1 re
  refine h1 β1 H1 σ l st1 re1 _ (wpR_bind q1 fun a a' H2 β2 st2 f2 rl2 p2 q2 => ?_)
  cases (show a = a' from p2)
  have re2 := f2.re rl2 re1
  refine h2 β2 H2 σ l st2 re2 _ (wpR_bind q2 fun b b' H3 β3 st3 f3 rl3 p3 q3 => ?_)
  cases (show b = b' from p3)
  have p4 := f3.ru (f2.ru p1)
  unfold fSl at q3
  split at q3
  · rename_i xs
    obtain ⟨p, vs, rfl, s, r⟩ := tup_q p4 (xs := xs) rfl
    refine .inl (.inr ⟨p, vs, rfl, s, fun w => ?_, fun w z hz => ?_⟩)
    · rw [r.len] at w
      rw [cut_whole w] at q3
      exact wpR_u rl3 p4 q3
    · obtain ⟨f4, rl4, rt⟩ := new_tup rl3 hz (r.cut a b)
      exact q3 _ _ β3 f4 rl4 rt
  · rename_i z
    cases ru_str p4
    split at q3
    · rename_i hz
      exact .inr ⟨z, rfl, of_decide_eq_true hz, wpR_d rl3 (.str _) q3⟩
    · exact q3.elim
  · split at q3
    · rename_i xs e
      obtain ⟨p, vs, rfl, s, r⟩ := list_q rl3 p4 e
      refine .inl (.inl ⟨p, vs, rfl, s, fun z hz => ?_⟩)
      obtain ⟨f4, rl4, rt⟩ := new_lst rl3 hz (r.cut a b)
      exact q3 _ _ β3 f4 rl4 rt
    · exact q3.elim
end
section
variable {X : Cx} {a b c e o i : Expr} {es : List Expr} {pos p pos2 : Pos} {ta tb tc te to ti : TE} {ma mb mc me mo mi : ME} {t u : TT} {mt mu : MB} {tA : TA} {mA : MA}
theorem q_addA (ha : QE X a ta ma) (hb : QE X b tb mb) : QE X (.BinOp a .Add b pos) (tOp (rAddA X.K) ta tb) (eOp fAddA ma mb) := ⟨pe_op op_addA ha.pe hb.pe, fun G h => h ▸ s_op r_addA (ha.sim G h) (hb.sim G h)⟩
theorem q_mulA (ha : QE X a ta ma) (hb : QE X b tb mb) : QE X (.BinOp a .Mult b pos) (tOp rMulA ta tb) (eOp fMulA ma mb) := ⟨pe_op op_mulA ha.pe hb.pe, fun G h => s_op r_mulA (ha.sim G h) (hb.sim G h)⟩
theorem q_slA {lo hi : Option Expr} {tl th : TO} {ml mh : MO} (he : QE X e te me) (hl : QO X lo tl ml) (hh : QO X hi th mh) : QE X (.Subscript e (.Slice lo hi none pos2) pos) (tSl (rSlAny X.K) te tl th) (eSlAny me ml mh) := ⟨pe_slice sl_any he.pe hl.po hh.po, fun G h => h ▸ s_slAny (he.sim G h) (hl.sim G h) (hh.sim G h)⟩
end
/-! short names of readings -/
abbrev rNegI : V → Hp → VK → Prop := rU fun i => .int (-i)
abbrev rSubI : R2 := rI0 fun i j => .int (i - j)
abbrev rModI : R2 := rI (fun _ j => j ≠ 0) fun i j => .int (i.fmod j)
abbrev rDivI : R2 := rI CDivA fun i j => .int (i.fdiv j)
abbrev rPowI : R2 := rI CPow fun i j => .int (i ^ j.toNat)
abbrev rLtI : R2 := rI0 fun i j => .bl (decide (i < j))
abbrev rLeI : R2 := rI0 fun i j => .bl (decide (i ≤ j))
abbrev rGtI : R2 := rI0 fun i j => .bl (decide (j < i))
abbrev rGeI : R2 := rI0 fun i j => .bl (decide (j ≤ i))
abbrev rIsNI : R2 := fun x y H Q => y = .non ∧ Q (.bl (decide (x = .non))) H
abbrev rNotNI : R2 := fun x y H Q => y = .non ∧ Q (.bl (!decide (x = .non))) H
abbrev rLenA (K : PySem.W.Frag) : List V → Hp → VK → Prop := fun xs H Q => ∃ x n, xs = [x] ∧ LenV K x H n ∧ Q (.int n) H
abbrev rAbsA : List V → Hp → VK → Prop := fun xs H Q => ∃ i, xs = [.int i] ∧ Q (.int (if i < 0 then -i else i)) H
abbrev rIntA : List V → Hp → VK → Prop := fun xs H Q => (∃ i, xs = [.int i] ∧ Q (.int i) H) ∨ ∃ k, xs = [.bl k] ∧ Q (.int (if k then 1 else 0)) H
abbrev rMax2A : List V → Hp → VK → Prop := fun xs H Q => ∃ i j, xs = [.int i, .int j] ∧ Q (.int (if j > i then j else i)) H
abbrev rMin2A : List V → Hp → VK → Prop := fun xs H Q => ∃ i j, xs = [.int i, .int j] ∧ Q (.int (if j < i then j else i)) H
abbrev rTupA (K : PySem.W.Frag) : List V → Hp → VK → Prop := fun xs H Q => ∃ p ys, xs = [.ref p] ∧ ((SqL K H p ys ∧ ∀ l, H l = none → Q (.ref l) (upd H l (.tup ys))) ∨ (SqT K H p ys ∧ Q (.ref p) H))
abbrev rListA (K : PySem.W.Frag) : List V → Hp → VK → Prop := fun xs H Q => ∃ p ys, xs = [.ref p] ∧ (SqL K H p ys ∨ SqT K H p ys) ∧ ∀ l, H l = none → Q (.ref l) (upd H l (.lst ys))
abbrev tTruA (K : PySem.W.Frag) (te : TE) : TT := fun σ H Q => te σ H fun x H' => ∃ k, TruV K x H' k ∧ Q k H'
/-! ### where a def stands; its promise, for callers -/
structure DefIn (K : PySem.W.Frag) (mg : Str → Option Value) (x : Str) (st : Stmt) (ps : List Str) : Prop where
  ex : ∃ f fd, Fun K x x st f fd ∧ mg x = some (.ref f) ∧ Binds K fd ps []
structure Cal (P : Program) (w : World) (K : PySem.W.Frag) (mg : Str → Option Value) (base : Heap) (k : Nat) (x : Str) (ps : List Str) (sp : Sp) : Prop where
  ex : ∃ f fd, FnOk P w K mg base CX0 k f fd ps sp ∧ mg x = some (.ref f) ∧ PySem.W.keepIn K (.ref f) = true ∧ Binds K fd ps []
structure ConIn (K : PySem.W.Frag) (mg : Str → Option Value) (x : Str) (d : PyData) : Prop where
  ex : ∃ u v, mg x = some u ∧ IsC K u v d
section
variable {P : Program} {w : World} {K : PySem.W.Frag} {mg : Str → Option Value} {base : Heap} {N ps : List Str} {x : Str} {st : Stmt} {k : Nat} {b : MS}
theorem calP (D : DefIn K mg x st ps) (S : FnScope N ps (defScope st)) (hN : ps.length ≤ N.length)
    (hb : ∀ (f : Addr) (cdv : Value) (A : Around) (outer : List Env) (s : Shared) (H : Hp) (E : XK), Room k (A.deeper (envOfC x (defScope st) s.heap.objs.size f cdv)) →
      ∃ t, QSs (cxOf CX0 P w K mg base N x (defScope st) f cdv A outer s H E).nox (defBody st) t b) : Cal P w K mg base (k + 1) x ps (spP K ps.length (pureOf N.length b)) := by
  obtain ⟨f, fd, F, hm, hb'⟩ := D.ex
  refine ⟨f, fd, okP F S hN (fun cdv A outer s H E hr => ?_), hm, F.kp, hb'⟩
  obtain ⟨t, h⟩ := hb f cdv A outer s H E hr
  exact ⟨t, h.pss, fun G hG => h.sim G hG⟩
theorem calF (D : DefIn K mg x st ps) (S : FnScope N ps (defScope st)) (hN : ps.length ≤ N.length)
    (hb : ∀ (f : Addr) (cdv : Value) (A : Around) (outer : List Env) (s : Shared) (H : Hp) (E : XK), Room k (A.deeper (envOfC x (defScope st) s.heap.objs.size f cdv)) →
      ∃ t, QSs (cxOf CX0 P w K mg base N x (defScope st) f cdv A outer s H E).nox (defBody st) t b) : Cal P w K mg base (k + 1) x ps (spF K ps.length (flowOf N.length b)) := by
  obtain ⟨f, fd, F, hm, hb'⟩ := D.ex
  refine ⟨f, fd, okF F S hN (fun cdv A outer s H E hr => ?_), hm, F.kp, hb'⟩
  obtain ⟨t, h⟩ := hb f cdv A outer s H E hr
  exact ⟨t, h.pss, fun G hG => h.sim G hG⟩
end
section
variable {X : Cx} {e : Expr} {es : List Expr} {pos p : Pos} {tA : TA} {mA : MA}
theorem q_calP {k j n : Nat} {ps : List Str} {m : List PyData → Rp} {x : Str} (C : Cal X.prog X.w X.K X.mg X.base k x ps (spP X.K n m)) (hr : Room j X.A) (hkj : k ≤ j) (ha : QA X (e :: es) tA mA) (hg : Gl X x := by rfl) (hdb : (x == ("__debug__" : Str)) = false := by decide)
    (he : starEach (e :: es) X.env = (false, eval e X.env) :: starEach es X.env := by rfl) (hpl : (backTo pos (starEach es X.env)).any (·.1) = false := by rfl) :
    QE X (.Call (.Name x p) (e :: es) [] pos) (tCall (spP X.K n m) [] E0 tA) (eCallP n m mA) := by
  obtain ⟨f, fd, F, hm, hk, hb⟩ := C.ex
  exact q_callP F (hr.mono hkj) hm hk hb ha hg hdb he hpl
theorem q_calF {k j n : Nat} {ps : List Str} {m : List PyData → Fl → Rf} {x : Str} (C : Cal X.prog X.w X.K X.mg X.base k x ps (spF X.K n m)) (hr : Room j X.A) (hkj : k ≤ j) (ha : QA X (e :: es) tA mA) (hg : Gl X x := by rfl) (hdb : (x == ("__debug__" : Str)) = false := by decide)
    (he : starEach (e :: es) X.env = (false, eval e X.env) :: starEach es X.env := by rfl) (hpl : (backTo pos (starEach es X.env)).any (·.1) = false := by rfl) :
    QE X (.Call (.Name x p) (e :: es) [] pos) (tCall (spF X.K n m) [] E0 tA) (eCallF n m mA) := by
  obtain ⟨f, fd, F, hm, hk, hb⟩ := C.ex
  exact q_callF F (hr.mono hkj) hm hk hb ha hg hdb he hpl
end
end NW

namespace NW
open PySem PySem.Spec PyProof.Rows L2
/-! ### the law's own flow, the law, the end -/
def fl0 (ns : List Int) : Fl := ⟨ns, 0, 0, 1, 0⟩
def spFl (K : PySem.W.Frag) : Sp := fun vs H Q _ => ∃ (a : Addr) (ns : List Int), vs = [.ref a] ∧ SqL K H a (ns.map V.int) ∧
  ∀ H' fa fb, (∀ b o, H b = some o → H' b = some o) → H fa = none → fb ≠ fa → H' fa = some (.lst (flV fb (fl0 ns))) → H' fb = some (.lst (ns.map V.int)) → Q (.ref fa) H'
def spLaw (K : PySem.W.Frag) : Sp := fun vs H Q _ => ∃ (a : Addr) (ns : List Int), vs = [.ref a] ∧ SqL K H a (ns.map V.int) ∧ ns.length ≤ 63 ∧ ∀ H', Q (.bl true) H'
section
variable {P : Program} {w : World} {K : PySem.W.Frag} {mg : Str → Option Value} {base : Heap} {N ps : List Str} {x : Str} {st : Stmt} {k : Nat} {b : MS}
theorem calFl (D : DefIn K mg x st ps) (S : FnScope N ps (defScope st)) (hps : ps.length = 1) (hN : ps.length ≤ N.length)
    (hsem : ∀ ns, b (startL N.length [.scr ns]) ⟨none, []⟩ = .rt (.ref 0) ⟨none, [.lst [.list (ns.map .int), .int 0, .int 0, .int 1, .int 0]]⟩)
    (hb : ∀ (f : Addr) (cdv : Value) (A : Around) (outer : List Env) (s : Shared) (H : Hp) (E : XK), Room k (A.deeper (envOfC x (defScope st) s.heap.objs.size f cdv)) →
      ∃ t, QSs (cxOf CX0 P w K mg base N x (defScope st) f cdv A outer s H E).nox (defBody st) t b) : Cal P w K mg base (k + 1) x ps (spFl K) := by
  obtain ⟨f, fd, F, hm, hb'⟩ := D.ex
  refine ⟨f, fd, F.ok S (fun vs H Q E h => ?_) (fun cdv A outer s H vs Q E hr h => ?_), hm, F.kp, hb'⟩
  · obtain ⟨a, ns, rfl, _⟩ := h
    exact hps.symm
  · obtain ⟨a, ns, rfl, hS, q⟩ := h
    obtain ⟨t, h⟩ := hb f cdv A outer s H E hr
    refine ⟨t, h.pss, ?_⟩
    have own0 : ∀ b, ¬ Own ⟨K, 0, 0, fun _ => False, fun _ => none, fun _ _ _ _ => False⟩ [] ⟨none, []⟩ b := fun b h => by
      rcases h with ⟨h, _⟩ | ⟨i, xs, h, _⟩
      · cases h
      · simp at h
    have re : Re ⟨K, 0, 0, fun _ => False, fun _ => none, fun _ _ _ _ => False⟩ [] H (L2.start N [.ref a]) (startL N.length [.scr ns]) ⟨none, []⟩ := by
      refine ⟨⟨rfl, .nil, fun p hp => by simp at hp, fun i xs h => by simp at h, fun f h => (by cases h), fun p hp => hp.elim⟩, ⟨start_len N rfl (by simp; omega), fun i u e => ?_⟩⟩
      have e1 := start_get N (vs := [.ref a]) e
      cases i with
      | succ i => simp at e1
      | zero =>
        simp at e1; subst e1
        refine ⟨.ref a, start_getV N rfl, a, rfl, hS.imp (fun z => ⟨z, fun w => w.elim id (own0 a)⟩) id⟩
    refine h.sim ⟨K, 0, 0, fun _ => False, fun _ => none, fun _ _ _ _ => False⟩ rfl [] H _ _ _ re _ ?_
    rw [hsem ns]
    intro v H' β' f1 rl r
    obtain ⟨p, h1, rfl⟩ := r
    obtain ⟨p', vs, a1, b1, c1⟩ := rl.ob 0 _ rfl
    rw [h1] at a1; cases a1
    have own1 : Own ⟨K, 0, 0, fun _ => False, fun _ => none, fun _ _ _ _ => False⟩ β' ⟨none, [.lst [.list (ns.map .int), .int 0, .int 0, .int 1, .int 0]]⟩ p := .inr ⟨0, _, rfl, h1⟩
    have c1' : RTs K (Ban ⟨K, 0, 0, fun _ => False, fun _ => none, fun _ _ _ _ => False⟩ β' ⟨none, [.lst [.list (ns.map .int), .int 0, .int 0, .int 1, .int 0]]⟩) H' vs [.list (ns.map .int), .int 0, .int 0, .int 1, .int 0] := c1
    cases c1' with
    | cons x1 y1 =>
      cases x1 with
      | lst hs hr1 =>
        rename_i fb ws
        cases y1 with
        | cons x2 y2 => cases y2 with
          | cons x3 y3 => cases y3 with
            | cons x4 y4 => cases y4 with
              | cons x5 y5 =>
                cases y5; cases x2; cases x3; cases x4; cases x5
                have e1 := hr1.ints
                subst e1
                have hf : H p = none := by
                  obtain ⟨γ, e, hγ⟩ := f1.ext
                  rw [List.nil_append] at e; subst e
                  exact hγ p (List.mem_of_getElem? h1)
                exact q H' p fb (fun b o h => (f1.stay b o h (own0 b)).1) hf (fun e => hs.2 (.inr (e ▸ own1))) b1 hs.1
theorem okLaw {f : Addr} {fd : FuncData} {i : Nat} {kf : Nat} {mf : Str} {psf : List Str} {b1 : MS} (F : Fun K x x st f fd) (S : FnScope N ps (defScope st)) (hps : ps.length = 1) (hN : ps.length ≤ N.length)
    (hb : ∀ (cdv : Value) (A : Around) (outer : List Env) (s : Shared) (H : Hp) (E : XK), Room k (A.deeper (envOfC x (defScope st) s.heap.objs.size f cdv)) →
      ∃ t1, PSs (cxOf CX0 P w K mg base N x (defScope st) f cdv A outer s H E).nox (defBody st) (tSeq (tAsg (tCall (spFl K) [] E0 (tCons (tVar 0) tNil)) (gName i)) t1) ∧ ∀ G : Gx, G.K = K → SimS G t1 b1)
    (hsem : ∀ ns : List Int, ns.length ≤ 63 → ∃ st', b1 ((startL N.length [.scr ns]).set i (some .flow)) ⟨some (fl0 ns), []⟩ = .rt (.d (.bool true)) st') :
    FnOk P w K mg base CX0 (k + 1) f fd ps (spLaw K) := by
  refine F.ok S (fun vs H Q E h => ?_) (fun cdv A outer s H vs Q E hr h => ?_)
  · obtain ⟨a, ns, rfl, _⟩ := h
    exact hps.symm
  · obtain ⟨a, ns, rfl, hS, hl, q⟩ := h
    obtain ⟨t1, h1, h2⟩ := hb cdv A outer s H E hr
    refine ⟨_, h1, ?_⟩
    refine ⟨.ref a, start_getV N rfl, a, ns, rfl, hS, fun H' fa fb kk hf0 hne hfa hfb => ?_⟩
    obtain ⟨st', e⟩ := hsem ns hl
    have own0 : ∀ b, Own ⟨K, fa, fb, fun _ => False, fun _ => none, fun _ _ _ _ => False⟩ [] ⟨some (fl0 ns), []⟩ b → b = fa := fun b h => by
      rcases h with ⟨_, h⟩ | ⟨i, xs, h, _⟩
      · exact h
      · simp at h
    have rl : Rl ⟨K, fa, fb, fun _ => False, fun _ => none, fun _ _ _ _ => False⟩ [] H' ⟨some (fl0 ns), []⟩ := by
      refine ⟨rfl, .nil, fun p hp => by simp at hp, fun i xs h => by simp at h, fun f h => ?_, fun p hp => hp.elim⟩
      cases h
      exact ⟨⟨hfa, hfb, fun z => hne (z.elim False.elim (own0 fb))⟩, by simp⟩
    have lo : RLoc ⟨K, fa, fb, fun _ => False, fun _ => none, fun _ _ _ _ => False⟩ [] (Ban ⟨K, fa, fb, fun _ => False, fun _ => none, fun _ _ _ _ => False⟩ [] ⟨some (fl0 ns), []⟩) H' (L2.start N [.ref a]) (startL N.length [.scr ns]) := by
      refine ⟨start_len N rfl (by simp; omega), fun j u e => ?_⟩
      have e1 := start_get N (vs := [.ref a]) e
      cases j with
      | succ j => simp at e1
      | zero =>
        simp at e1; subst e1
        refine ⟨.ref a, start_getV N rfl, a, rfl, hS.imp (fun z => ⟨?_, fun w => ?_⟩) id⟩
        · rcases z with z | ⟨o, z⟩
          · exact .inl (kk _ _ z)
          · exact .inr ⟨o, kk _ _ z⟩
        · have e := w.elim False.elim (own0 a)
          subst e
          exact rd_ne z hf0
    refine h2 ⟨K, fa, fb, fun _ => False, fun _ => none, fun _ _ _ _ => False⟩ rfl [] H' _ _ _ ⟨rl, lo.set i (u := .flow) rfl⟩ _ ?_
    rw [e]
    intro v H2 β2 f2 rl2 r2
    have r2' : RT K _ H2 v (.bool true) := r2
    cases r2'
    exact q H2
end
section
variable {K : PySem.W.Frag} {mg : Str → Option Value} {x : Str} {st : Stmt} {ps : List Str}
theorem defIn_mk {h : Heap} {f : Addr} {oc : Value} {od an : Option Addr} {osl : Array (Option Value)} {kV doc pm cdv ct : Value} (X : K.In h) (G : h.Ns mainGlobals mg) (a : PySem.W.nsIn K mainGlobals x = some (some (.ref f)))
    (l : K.lookup f = some ⟨oc, od, .func (PySem.W.fnOf x x (defArgs st) (defBody st) (defScope st) .none kV doc pm an cdv ct), osl⟩) (c : PySem.W.codeIn K cdv x = true) (k : PySem.W.keepIn K (.ref f) = true)
    (hb : ∀ (kV doc pm : Value) (an : Option Addr) (cdv ct : Value) (us : List Value), us.length = ps.length → bindArgs (PySem.W.fnOf x x (defArgs st) (defBody st) (defScope st) .none kV doc pm an cdv ct) ⟨us, []⟩ = pure (ps.zip us)) : DefIn K mg x st ps :=
  ⟨f, _, fun_mk l c k, PySem.W.mg_of X G a, (fun_mk l c k).binds hb⟩
end
end NW

namespace NW
open PySem PySem.Spec PyProof.Rows L2
/-! ### running the functions: what comes -/
def Res.To {α : Type} (r : Res α) (P : α → Sto → Prop) : Prop := match r with
  | .ok a s => P a s
  | _ => False
def Out.To (o : Out) (N : Loc → Sto → Prop) (R : U → Sto → Prop) : Prop := match o with
  | .nx l s => N l s
  | .rt u s => R u s
  | _ => False
def Rp.To (r : Rp) (P : PyData → Prop) : Prop := match r with
  | .ok d _ => P d
  | _ => False
def Rf.To (r : Rf) (P : PyData → Fl → Prop) : Prop := match r with
  | .ok d _ f => P d f
  | _ => False
section
variable {α γ : Type} {P : α → Sto → Prop} {N : Loc → Sto → Prop} {R : U → Sto → Prop} {l : Loc} {st : Sto} {Q : U → Sto → Prop}
@[simp] theorem to_ok {a : α} : (Res.ok a st).To P ↔ P a st := Iff.rfl
@[simp] theorem to_no : (Res.no : Res α).To P ↔ False := Iff.rfl
@[simp] theorem to_bind {r : Res γ} {k : γ → Sto → Res α} : (r.bind k).To P ↔ r.To fun a s => (k a s).To P := by cases r <;> exact Iff.rfl
@[simp] theorem to_ite {c : Prop} [Decidable c] {a b : Res α} : (if c then a else b).To P ↔ if c then a.To P else b.To P := by split <;> exact Iff.rfl
@[simp] theorem to_iteO {c : Prop} [Decidable c] {a b : Out} : (if c then a else b).To N R ↔ if c then a.To N R else b.To N R := by split <;> exact Iff.rfl
@[simp] theorem to_nx : (Out.nx l st).To N R ↔ N l st := Iff.rfl
@[simp] theorem to_rt {u : U} : (Out.rt u st).To N R ↔ R u st := Iff.rfl
@[simp] theorem to_noO : Out.no.To N R ↔ False := Iff.rfl
@[simp] theorem to_out {r : Res γ} {k : γ → Sto → Out} : (r.out l k).To N R ↔ r.To fun a s => (k a s).To N R := by cases r <;> exact Iff.rfl
@[simp] theorem to_seq {o : Out} {k : Loc → Sto → Out} : (o.seq k).To N R ↔ o.To (fun l s => (k l s).To N R) R := by cases o <;> exact Iff.rfl
theorem Res.To.mono {r : Res α} {P' : α → Sto → Prop} (h : r.To P) (k : ∀ a s, P a s → P' a s) : r.To P' := by
  cases r with
  | ok a s => exact k a s h
  | _ => exact h
theorem Out.To.mono {o : Out} {N' : Loc → Sto → Prop} {R' : U → Sto → Prop} (h : o.To N R) (k : ∀ l s, N l s → N' l s) (k2 : ∀ u s, R u s → R' u s) : o.To N' R' := by
  cases o with
  | nx a s => exact k a s h
  | rt a s => exact k2 a s h
  | _ => exact h
/-! expressions -/
@[simp] theorem to_var {i : Nat} : (eVar i l st).To Q ↔ ∃ u, l[i]? = some (some u) ∧ Q u st := by
  unfold eVar
  split
  · rename_i u e; simp [e]
  · rename_i h
    constructor
    · exact fun z => z.elim
    · rintro ⟨u, e, _⟩; exact (h u e).elim
@[simp] theorem to_c {x : PyData} : (eC x l st).To Q ↔ Q (.d x) st := Iff.rfl
@[simp] theorem to_op {f : U → U → Sto → Res U} {a b : ME} : (eOp f a b l st).To Q ↔ (a l st).To fun x s => (b l s).To fun y s => (f x y s).To Q := by unfold eOp; simp
@[simp] theorem to_addI {i j : Int} : (fAddA (.d (.int i)) (.d (.int j)) st).To Q ↔ Q (.d (.int (i + j))) st := Iff.rfl
@[simp] theorem to_subI {i j : Int} : (fSub (.d (.int i)) (.d (.int j)) st).To Q ↔ Q (.d (.int (i - j))) st := Iff.rfl
@[simp] theorem to_mulI {i j : Int} : (fMulA (.d (.int i)) (.d (.int j)) st).To Q ↔ mulC i j = true ∧ Q (.d (.int (i * j))) st := by unfold fMulA; simp
@[simp] theorem to_modI {i j : Int} : (fMod (.d (.int i)) (.d (.int j)) st).To Q ↔ j ≠ 0 ∧ Q (.d (.int (i.fmod j))) st := by unfold fMod oI; simp
@[simp] theorem to_divI {i j : Int} : (fDiv (.d (.int i)) (.d (.int j)) st).To Q ↔ divC i j = true ∧ Q (.d (.int (i.fdiv j))) st := by unfold fDiv oI; simp
@[simp] theorem to_powI {i j : Int} : (fPow (.d (.int i)) (.d (.int j)) st).To Q ↔ (0 ≤ j ∧ j ≤ 1000000 ∧ i.natAbs < 2 ^ 64) ∧ Q (.d (.int (i ^ j.toNat))) st := by unfold fPow oI; simp
@[simp] theorem to_lt {i j : Int} : (fLt (.d (.int i)) (.d (.int j)) st).To Q ↔ Q (.d (.bool (decide (i < j)))) st := Iff.rfl
@[simp] theorem to_le {i j : Int} : (fLe (.d (.int i)) (.d (.int j)) st).To Q ↔ Q (.d (.bool (decide (i ≤ j)))) st := Iff.rfl
@[simp] theorem to_gt {i j : Int} : (fGt (.d (.int i)) (.d (.int j)) st).To Q ↔ Q (.d (.bool (decide (j < i)))) st := Iff.rfl
@[simp] theorem to_ge {i j : Int} : (fGe (.d (.int i)) (.d (.int j)) st).To Q ↔ Q (.d (.bool (decide (j ≤ i)))) st := Iff.rfl
@[simp] theorem to_eqD {x y : PyData} {neg : Bool} : (opEq neg (.d x) (.d y) st).To Q ↔ (SeqAt.shaped x = true ∧ SeqAt.shaped y = true) ∧ Q (.d (.bool (if neg then !PyData.eqv x y else PyData.eqv x y))) st := by
  unfold opEq toTree; simp
@[simp] theorem shaped_int {i : Int} : SeqAt.shaped (.int i) = true := rfl
@[simp] theorem shaped_bool {i : Bool} : SeqAt.shaped (.bool i) = true := rfl
@[simp] theorem shaped_none : SeqAt.shaped .none = true := rfl
@[simp] theorem eqv_int {i j : Int} : PyData.eqv (.int i) (.int j) = decide (i = j) := by simp [PyData.eqv, BEq.beq]
@[simp] theorem eqv_bool {i j : Bool} : PyData.eqv (.bool i) (.bool j) = decide (i = j) := by cases i <;> cases j <;> rfl
@[simp] theorem to_isN {u : U} {neg : Bool} : (fIsN neg u (.d .none) st).To Q ↔ Q (.d (.bool (if neg then !isNon u else isNon u))) st := Iff.rfl
/-! items -/
@[simp] theorem to_ixT {xs : List PyData} {i : Int} : (fIx (.d (.tuple xs)) (.d (.int i)) st).To Q ↔ ∃ x, ((idxN xs.length i).bind fun j => xs[j]?) = some x ∧ Q (.d x) st := by
  show (match (idxN xs.length i).bind fun j => xs[j]? with
        | some x => Res.ok (U.d x) st
        | none => .no).To Q ↔ _
  cases (idxN xs.length i).bind fun j => xs[j]? <;> simp
@[simp] theorem to_ixL {xs : List PyData} {i : Int} : (fIx (.d (.list xs)) (.d (.int i)) st).To Q ↔ ∃ x, ((idxN xs.length i).bind fun j => xs[j]?) = some x ∧ Q (.d x) st := by
  show (match (idxN xs.length i).bind fun j => xs[j]? with
        | some x => Res.ok (U.d x) st
        | none => .no).To Q ↔ _
  cases (idxN xs.length i).bind fun j => xs[j]? <;> simp
@[simp] theorem to_ixF {i : Int} : (fIx .flow (.d (.int i)) st).To Q ↔ ∃ f u, st.fl = some f ∧ flAt f i = some u ∧ Q u st := by
  show (match st.fl with
      | some f => (match flAt f i with
        | some u => Res.ok u st
        | none => .no)
      | none => .no).To Q ↔ _
  cases st.fl with
  | none => simp
  | some f => cases h : flAt f i <;> simp [h]
@[simp] theorem to_ixS {ns : List Int} {i : Int} : (fIx (.scr ns) (.d (.int i)) st).To Q ↔ ∃ x, ((idxN ns.length i).bind fun j => ns[j]?) = some x ∧ Q (.d (.int x)) st := by
  show (match (idxN ns.length i).bind fun j => ns[j]? with
        | some x => Res.ok (U.d (.int x)) st
        | none => .no).To Q ↔ _
  cases (idxN ns.length i).bind fun j => ns[j]? <;> simp
theorem idxN_nat {n j : Nat} (h : j < n) : idxN n (j : Int) = some j := by
  unfold idxN; rw [if_pos (by omega), if_pos (by omega)]; simp
@[simp] theorem flAt_0 {f : Fl} : flAt f 0 = some (.scr f.cells) := rfl
@[simp] theorem flAt_1 {f : Fl} : flAt f 1 = some (.d (.int f.place)) := rfl
@[simp] theorem flAt_2 {f : Fl} : flAt f 2 = some (.d (.int f.held)) := rfl
@[simp] theorem flAt_3 {f : Fl} : flAt f 3 = some (.d (.int f.seed)) := rfl
@[simp] theorem flAt_4 {f : Fl} : flAt f 4 = some (.d (.int f.many)) := rfl
@[simp] theorem flPut_1 {f : Fl} {x : Int} : flPut f 1 x = some { f with place := x } := rfl
@[simp] theorem flPut_2 {f : Fl} {x : Int} : flPut f 2 x = some { f with held := x } := rfl
@[simp] theorem flPut_3 {f : Fl} {x : Int} : flPut f 3 x = some { f with seed := x } := rfl
@[simp] theorem flPut_4 {f : Fl} {x : Int} : flPut f 4 x = some { f with many := x } := rfl
/-! tests -/
@[simp] theorem to_bTest {m : ME} {P : Bool → Sto → Prop} : (bTest m l st).To P ↔ (m l st).To fun u s => ∃ b, u = .d (.bool b) ∧ P b s := by
  unfold bTest
  rw [to_bind]
  cases m l st with
  | ok u s =>
    simp only [to_ok]
    split
    · rename_i b; simp
    · rename_i h
      simp only [to_no, false_iff]
      rintro ⟨b, rfl, _⟩; exact h b rfl
  | _ => exact Iff.rfl
@[simp] theorem to_bAnd {a b : MB} {P : Bool → Sto → Prop} : (bAnd a b l st).To P ↔ (a l st).To fun c s => if c = true then (b l s).To P else P false s := by unfold bAnd; simp
@[simp] theorem to_bOr {a b : MB} {P : Bool → Sto → Prop} : (bOr a b l st).To P ↔ (a l st).To fun c s => if c = true then P true s else (b l s).To P := by unfold bOr; simp
@[simp] theorem to_bNot {a : MB} {P : Bool → Sto → Prop} : (bNot a l st).To P ↔ (a l st).To fun c s => P (!c) s := by unfold bNot; simp
@[simp] theorem to_bYes {P : Bool → Sto → Prop} : (bYes l st).To P ↔ P true st := Iff.rfl
@[simp] theorem to_bTruB {m : ME} {P : Bool → Sto → Prop} : (bTru m l st).To P ↔ (m l st).To fun u s => ∃ b, truD s u = some b ∧ P b s := by
  unfold bTru
  rw [to_bind]
  cases m l st with
  | ok u s => simp only [to_ok]; cases truD s u <;> simp
  | _ => exact Iff.rfl
@[simp] theorem truD_bool {b : Bool} : truD st (.d (.bool b)) = some b := rfl
@[simp] theorem truD_int {i : Int} : truD st (.d (.int i)) = some (i != 0) := rfl
@[simp] theorem to_eAndV {a b : ME} : (eAndV a b l st).To Q ↔ (a l st).To fun u s => ∃ c, u = .d (.bool c) ∧ if c = true then (b l s).To Q else Q (.d (.bool false)) s := by
  unfold eAndV
  rw [to_bind]
  cases a l st with
  | ok u s =>
    simp only [to_ok]
    split
    · rename_i b; simp
    · rename_i h
      simp only [to_no, false_iff]
      rintro ⟨b, rfl, _⟩; exact h b rfl
  | _ => exact Iff.rfl
@[simp] theorem to_eOrV {a b : ME} : (eOrV a b l st).To Q ↔ (a l st).To fun u s => ∃ c, u = .d (.bool c) ∧ if c = true then Q (.d (.bool true)) s else (b l s).To Q := by
  unfold eOrV
  rw [to_bind]
  cases a l st with
  | ok u s =>
    simp only [to_ok]
    split
    · rename_i b; simp
    · rename_i h
      simp only [to_no, false_iff]
      rintro ⟨b, rfl, _⟩; exact h b rfl
  | _ => exact Iff.rfl
@[simp] theorem to_eNotV {a : ME} : (eNotV a l st).To Q ↔ (a l st).To fun u s => ∃ c, u = .d (.bool c) ∧ Q (.d (.bool (!c))) s := by
  unfold eNotV
  rw [to_bind]
  cases a l st with
  | ok u s =>
    simp only [to_ok]
    split
    · rename_i b; simp
    · rename_i h
      simp only [to_no, false_iff]
      rintro ⟨b, rfl, _⟩; exact h b rfl
  | _ => exact Iff.rfl
/-! arguments, displays -/
@[simp] theorem to_aNil {P : List U → Sto → Prop} : (aNil l st).To P ↔ P [] st := Iff.rfl
@[simp] theorem to_aCons {a : ME} {r : MA} {P : List U → Sto → Prop} : (aCons a r l st).To P ↔ (a l st).To fun u s => (r l s).To fun us s => P (u :: us) s := by unfold aCons; simp
@[simp] theorem lenOk_small {n : Nat} : lenOk n = true ↔ n ≤ 16777216 := by unfold lenOk; rw [sizeLine_eq]; simp
@[simp] theorem to_eTup {a : MA} : (eTup a l st).To Q ↔ (a l st).To fun us s => ∃ ds, treesOf us = some ds ∧ ds.length ≤ 16777216 ∧ Q (.d (.tuple ds)) s := by
  unfold eTup
  rw [to_bind]
  cases a l st with
  | ok u s => simp only [to_ok]; cases treesOf u <;> simp
  | _ => exact Iff.rfl
@[simp] theorem treesOf_nil : treesOf [] = some [] := rfl
@[simp] theorem treesOf_cons {x : PyData} {us : List U} : treesOf (.d x :: us) = (treesOf us).map (x :: ·) := rfl
@[simp] theorem to_lDisp {a : MA} {P : List PyData → Sto → Prop} : (lDisp a l st).To P ↔ (a l st).To fun us s => ∃ ds, treesOf us = some ds ∧ ds.length ≤ 16777216 ∧ P ds s := by
  unfold lDisp
  rw [to_bind]
  cases a l st with
  | ok u s => simp only [to_ok]; cases treesOf u <;> simp
  | _ => exact Iff.rfl
@[simp] theorem to_eFrz {m : ML} : (eFrz m l st).To Q ↔ (m l st).To fun xs s => Q (.d (.list xs)) s := by unfold eFrz; simp
@[simp] theorem to_eOwn {m : ML} : (eOwn m l st).To Q ↔ (m l st).To fun xs s => Q (.ref s.obs.length) (s.add xs) := by unfold eOwn; simp
@[simp] theorem to_eCB {f : List U → Sto → Res U} {a : MA} : (eCB f a l st).To Q ↔ (a l st).To fun us s => (f us s).To Q := by unfold eCB; simp
@[simp] theorem to_lCB {f : List U → Sto → Res (List PyData)} {a : MA} {P : List PyData → Sto → Prop} : (lCB f a l st).To P ↔ (a l st).To fun us s => (f us s).To P := by unfold lCB; simp
@[simp] theorem to_callP {k : Nat} {m : List PyData → Rp} {a : MA} : (eCallP k m a l st).To Q ↔ (a l st).To fun us s => (fCallP k m us s).To Q := by unfold eCallP; simp
@[simp] theorem to_callF {k : Nat} {m : List PyData → Fl → Rf} {a : MA} : (eCallF k m a l st).To Q ↔ (a l st).To fun us s => (fCallF k m us s).To Q := by unfold eCallF; simp
theorem ctrees_d {ds : List PyData} : ctrees st (ds.map .d) = some ds := by
  induction ds with
  | nil => rfl
  | cons x xs ih => rw [List.map_cons, ctrees, ih]; rfl
theorem any_d {ds : List PyData} : (ds.map U.d).any isRef = false := by
  induction ds with
  | nil => rfl
  | cons x xs ih => rw [List.map_cons, List.any_cons, ih]; rfl
theorem fCallP_d {k : Nat} {m : List PyData → Rp} {ds : List PyData} (hk : ds.length = k) : (fCallP k m (ds.map .d) st).To Q ↔ (m ds).To fun d => Q (.d d) st := by
  unfold fCallP
  rw [ctrees_d]
  simp only [hk, if_true, any_d]
  cases m ds <;> simp [Rp.To]
theorem fCallF_d {k : Nat} {m : List PyData → Fl → Rf} {ds : List PyData} {f : Fl} (hf : st.fl = some f) (hk : ds.length + 1 = k) : (fCallF k m (.flow :: ds.map .d) st).To Q ↔ (m ds f).To fun d f' => Q (.d d) { st with fl := some f' } := by
  unfold fCallF
  simp only [hf]
  rw [ctrees_d]
  simp only [hk, if_true, any_d]
  cases m ds f <;> simp [Rf.To]
@[simp] theorem callP_1 {m : List PyData → Rp} {x : PyData} : (fCallP 1 m [.d x] st).To Q ↔ (m [x]).To fun d => Q (.d d) st := fCallP_d (ds := [x]) rfl
@[simp] theorem callP_2 {m : List PyData → Rp} {x y : PyData} : (fCallP 2 m [.d x, .d y] st).To Q ↔ (m [x, y]).To fun d => Q (.d d) st := fCallP_d (ds := [x, y]) rfl
@[simp] theorem callP_3 {m : List PyData → Rp} {x y z : PyData} : (fCallP 3 m [.d x, .d y, .d z] st).To Q ↔ (m [x, y, z]).To fun d => Q (.d d) st := fCallP_d (ds := [x, y, z]) rfl
@[simp] theorem callP_4 {m : List PyData → Rp} {x y z w : PyData} : (fCallP 4 m [.d x, .d y, .d z, .d w] st).To Q ↔ (m [x, y, z, w]).To fun d => Q (.d d) st := fCallP_d (ds := [x, y, z, w]) rfl
@[simp] theorem callF_1 {m : List PyData → Fl → Rf} {f : Fl} {o : List Ob} : (fCallF 1 m [.flow] ⟨some f, o⟩).To Q ↔ (m [] f).To fun d f' => Q (.d d) ⟨some f', o⟩ := fCallF_d (ds := []) rfl rfl
@[simp] theorem callF_2 {m : List PyData → Fl → Rf} {x : PyData} {f : Fl} {o : List Ob} : (fCallF 2 m [.flow, .d x] ⟨some f, o⟩).To Q ↔ (m [x] f).To fun d f' => Q (.d d) ⟨some f', o⟩ := fCallF_d (ds := [x]) rfl rfl
@[simp] theorem callF_3 {m : List PyData → Fl → Rf} {x y : PyData} {f : Fl} {o : List Ob} : (fCallF 3 m [.flow, .d x, .d y] ⟨some f, o⟩).To Q ↔ (m [x, y] f).To fun d f' => Q (.d d) ⟨some f', o⟩ := fCallF_d (ds := [x, y]) rfl rfl
@[simp] theorem callF_4 {m : List PyData → Fl → Rf} {x y z : PyData} {f : Fl} {o : List Ob} : (fCallF 4 m [.flow, .d x, .d y, .d z] ⟨some f, o⟩).To Q ↔ (m [x, y, z] f).To fun d f' => Q (.d d) ⟨some f', o⟩ := fCallF_d (ds := [x, y, z]) rfl rfl
/-! builtins -/
@[simp] theorem to_cAbs {i : Int} : (cAbs [.d (.int i)] st).To Q ↔ Q (.d (.int (if i < 0 then -i else i))) st := Iff.rfl
@[simp] theorem to_cIntI {i : Int} : (cInt [.d (.int i)] st).To Q ↔ Q (.d (.int i)) st := Iff.rfl
@[simp] theorem to_cIntB {b : Bool} : (cInt [.d (.bool b)] st).To Q ↔ Q (.d (.int (if b then 1 else 0))) st := Iff.rfl
@[simp] theorem to_cLenT {xs : List PyData} : (cLen [.d (.tuple xs)] st).To Q ↔ Q (.d (.int xs.length)) st := Iff.rfl
@[simp] theorem to_cLenL {xs : List PyData} : (cLen [.d (.list xs)] st).To Q ↔ Q (.d (.int xs.length)) st := Iff.rfl
@[simp] theorem to_cLenS {ns : List Int} : (cLen [.scr ns] st).To Q ↔ Q (.d (.int ns.length)) st := Iff.rfl
@[simp] theorem to_cAll {bs : List Bool} : (cAll [.d (.list (bs.map .bool))] st).To Q ↔ Q (.d (.bool (bs.all id))) st := by
  unfold cAll cBools listOf; simp
@[simp] theorem to_cAny {bs : List Bool} : (cAny [.d (.list (bs.map .bool))] st).To Q ↔ Q (.d (.bool (bs.any id))) st := by
  unfold cAny cBools listOf; simp
@[simp] theorem to_isi {m : ME} {T : String} : (eIsi m T l st).To Q ↔ (m l st).To fun u s => ∃ x, toTree s u = some x ∧ tyOk T = true ∧ Q (.d (.bool (isiT x T))) s := by
  unfold eIsi
  rw [to_bind]
  cases m l st with
  | ok u s => simp only [to_ok]; cases toTree s u <;> simp
  | _ => exact Iff.rfl
@[simp] theorem toTree_d' {x : PyData} : toTree st (.d x) = some x := rfl
/-! statements -/
@[simp] theorem to_sNext : (sNext l st).To N R ↔ N l st := Iff.rfl
@[simp] theorem to_sSeq {a b : MS} : (sSeq a b l st).To N R ↔ (a l st).To (fun l s => (b l s).To N R) R := by unfold sSeq; simp
@[simp] theorem to_sAsg {i : Nat} {m : ME} : (sAsg i m l st).To N R ↔ (m l st).To fun u s => N (l.set i (some u)) s := by unfold sAsg; simp
@[simp] theorem to_sDrop {m : ME} : (sDrop m l st).To N R ↔ (m l st).To fun _ s => N l s := by unfold sDrop; simp
@[simp] theorem to_sRet {m : ME} : (sRet m l st).To N R ↔ (m l st).To R := by unfold sRet; simp
@[simp] theorem to_sIf {c : MB} {a b : MS} : (sIf c a b l st).To N R ↔ (c l st).To fun k s => if k = true then (a l s).To N R else (b l s).To N R := by unfold sIf; simp
theorem to_sPar0 {i j : Nat} {a : MA} : (sPar i j a l st).To N R ↔ (a l st).To fun us s => ∃ u w, us = [u, w] ∧ N ((l.set i (some u)).set j (some w)) s := by
  unfold sPar
  rw [to_out]
  cases a l st with
  | ok us s =>
    simp only [to_ok]
    show (match us with | [u, w] => Out.nx ((l.set i (some u)).set j (some w)) s | _ => .no).To N R ↔ _
    split
    · rename_i u w
      exact ⟨fun z => ⟨u, w, rfl, z⟩, fun ⟨u', w', e, z⟩ => by cases e; exact z⟩
    · rename_i h
      constructor
      · exact fun z => z.elim
      · rintro ⟨u, w, rfl, _⟩; exact (h u w rfl).elim
  | _ => exact Iff.rfl
@[simp] theorem to_sPar {i j : Nat} {a b : ME} : (sPar i j (aCons a (aCons b aNil)) l st).To N R ↔ (a l st).To fun u s => (b l s).To fun w s => N ((l.set i (some u)).set j (some w)) s := by
  rw [to_sPar0, to_aCons]
  refine iff_of_eq (congrArg _ (funext fun u => funext fun s => propext ?_))
  rw [to_aCons]
  refine iff_of_eq (congrArg _ (funext fun w => funext fun s => propext ?_))
  rw [to_aNil]
  exact ⟨fun ⟨u', w', e, z⟩ => by cases e; exact z, fun z => ⟨u, w, rfl, z⟩⟩
@[simp] theorem to_sAsgG {m : ME} {t : MT} : (sAsgG m t l st).To N R ↔ (m l st).To fun u s => (t u l s).To N := by unfold sAsgG; simp
@[simp] theorem to_gName {i : Nat} {u : U} {P : Loc → Sto → Prop} : (gNameM i u l st).To P ↔ P (l.set i (some u)) st := Iff.rfl
@[simp] theorem to_gTup {n : Nat} {r : MTs} {xs : List PyData} {P : Loc → Sto → Prop} : (gTupM n r (.d (.tuple xs)) l st).To P ↔ xs.length = n ∧ (r xs l st).To P := by
  unfold gTupM; simp
@[simp] theorem to_gCons {t : MT} {r : MTs} {x : PyData} {xs : List PyData} {P : Loc → Sto → Prop} : (gConsM t r (x :: xs) l st).To P ↔ (t (.d x) l st).To fun l s => (r xs l s).To P := by unfold gConsM; simp
@[simp] theorem to_gNil {P : Loc → Sto → Prop} : (gNilM [] l st).To P ↔ P l st := Iff.rfl
@[simp] theorem to_gSubF {o i : ME} {x : Int} {P : Loc → Sto → Prop} : (gSubM o i (.d (.int x)) l st).To P ↔ (o l st).To fun ou s => (i l s).To fun iu s => (match ou, iu with
  | .flow, .d (.int j) => ∃ f f', s.fl = some f ∧ flPut f j x = some f' ∧ P l { s with fl := some f' }
  | .ref k, .d (.int j) => ∃ xs n, s.obs[k]? = some (.lst xs) ∧ idxN xs.length j = some n ∧ P l (s.put k (xs.set n (.int x)))
  | _, _ => False) := by
  unfold gSubM
  rw [to_bind]
  refine iff_of_eq (congrArg _ (funext fun ou => funext fun s => propext ?_))
  rw [to_bind]
  refine iff_of_eq (congrArg _ (funext fun iu => funext fun s => propext ?_))
  cases ou <;> cases iu <;> try exact Iff.rfl
  · rename_i k y
    cases y <;> try exact Iff.rfl
    rename_i j
    show (match s.obs[k]? with
      | some (.lst xs) => (match idxN xs.length j with
        | some n => Res.ok l (s.put k (xs.set n (.int x)))
        | none => .no)
      | _ => .no).To P ↔ _
    split
    · rename_i xs e
      split
      · rename_i n en; simp [e, en]
      · rename_i en; simp [e, en]
    · rename_i h
      constructor
      · exact fun z => z.elim
      · rintro ⟨xs, n, e, _⟩; exact (h xs e).elim
  · rename_i y
    cases y <;> try exact Iff.rfl
    rename_i j
    show (match s.fl with
      | some f => (match flPut f j x with
        | some f' => Res.ok l { s with fl := some f' }
        | none => .no)
      | none => .no).To P ↔ _
    cases s.fl with
    | none => simp
    | some f => cases e : flPut f j x <;> simp [e]
end
def retP (P : PyData → Prop) (u : U) (s : Sto) : Prop := match u with
  | .d x => P x
  | .ref i => ∃ xs, s.obs[i]? = some (Ob.lst xs) ∧ P (.list xs)
  | _ => False
def retF (P : PyData → Fl → Prop) (u : U) (s : Sto) : Prop := match u with
  | .d x => ∃ f, s.fl = some f ∧ P x f
  | .ref i => ∃ xs f, s.obs[i]? = some (Ob.lst xs) ∧ s.fl = some f ∧ P (.list xs) f
  | _ => False
section
variable {st : Sto} {P : PyData → Prop} {PF : PyData → Fl → Prop}
@[simp] theorem retP_d {x : PyData} : retP P (.d x) st ↔ P x := Iff.rfl
@[simp] theorem retP_ref {i : Nat} : retP P (.ref i) st ↔ ∃ xs, st.obs[i]? = some (Ob.lst xs) ∧ P (.list xs) := Iff.rfl
@[simp] theorem retF_d {x : PyData} : retF PF (.d x) st ↔ ∃ f, st.fl = some f ∧ PF x f := Iff.rfl
@[simp] theorem retF_ref {i : Nat} : retF PF (.ref i) st ↔ ∃ xs f, st.obs[i]? = some (Ob.lst xs) ∧ st.fl = some f ∧ PF (.list xs) f := Iff.rfl
theorem outP_to {o : Out} : (outP o).To P ↔ o.To (fun _ _ => P .none) (retP P) := by
  cases o with
  | rt u s =>
    cases u with
    | ref i =>
      show (match s.obs[i]? with | some (.lst xs) => Rp.ok (.list xs) true | _ => .no).To P ↔ ∃ xs, s.obs[i]? = some (Ob.lst xs) ∧ P (.list xs)
      split
      · rename_i xs e; simp [e, Rp.To]
      · rename_i h
        constructor
        · exact fun z => z.elim
        · rintro ⟨xs, e, _⟩; exact (h xs e).elim
    | _ => exact Iff.rfl
  | _ => exact Iff.rfl
theorem pure_to {n : Nat} {b : MS} {ds : List PyData} : (pureOf n b ds).To P ↔ (b (startL n (ds.map .d)) ⟨none, []⟩).To (fun _ _ => P .none) (retP P) := outP_to
theorem outF_to {o : Out} : (outF o).To PF ↔ o.To (fun _ s => ∃ f, s.fl = some f ∧ PF .none f) (retF PF) := by
  cases o with
  | rt u s =>
    cases u with
    | d x =>
      show (match s.fl with | some f => Rf.ok x false f | none => .no).To PF ↔ ∃ f, s.fl = some f ∧ PF x f
      cases s.fl <;> simp [Rf.To]
    | ref i =>
      show (match s.obs[i]?, s.fl with | some (.lst xs), some f => Rf.ok (.list xs) true f | _, _ => .no).To PF ↔ ∃ xs f, s.obs[i]? = some (Ob.lst xs) ∧ s.fl = some f ∧ PF (.list xs) f
      split
      · rename_i xs f e e2; simp [e, e2, Rf.To]
      · rename_i h
        constructor
        · exact fun z => z.elim
        · rintro ⟨xs, f, e, e2, _⟩; exact (h xs f e e2).elim
    | _ => exact Iff.rfl
  | nx l s =>
    show (match s.fl with | some f => Rf.ok .none false f | none => .no).To PF ↔ ∃ f, s.fl = some f ∧ PF .none f
    cases s.fl <;> simp [Rf.To]
  | ex e l s =>
    show (match s.fl with | some f => Rf.ex e f | none => .no).To PF ↔ False
    cases s.fl <;> exact Iff.rfl
  | _ => exact Iff.rfl
theorem flow_to {n : Nat} {b : MS} {ds : List PyData} {f : Fl} : (flowOf n b ds f).To PF ↔ (b (startL n (.flow :: ds.map .d)) ⟨some f, []⟩).To (fun _ s => ∃ f, s.fl = some f ∧ PF .none f) (retF PF) := outF_to
theorem Rp.To.mono {r : Rp} {P' : PyData → Prop} (h : r.To P) (k : ∀ d, P d → P' d) : r.To P' := by
  cases r with
  | ok a s => exact k a h
  | _ => exact h
theorem Rf.To.mono {r : Rf} {P' : PyData → Fl → Prop} (h : r.To PF) (k : ∀ d f, PF d f → P' d f) : r.To P' := by
  cases r with
  | ok a s f => exact k a f h
  | _ => exact h
/-! loops -/
theorem while_to {c : MB} {b : MS} {N : Loc → Sto → Prop} {R : U → Sto → Prop} {I : Nat → Loc → Sto → Prop}
    (step : ∀ n l st, I n l st → (c l st).To fun k s => if k = true then (b l s).To (fun l s => ∃ m, m < n ∧ I m l s) R else N l s) : ∀ (n : Nat) (l : Loc) (st : Sto), I n l st → (sWhile c b l st).To N R := by
  intro n l st h
  have key : ∀ (k n : Nat), n < k → ∀ l st, I n l st → (whileN c b k l st).To N R := by
    intro k
    induction k with
    | zero => intro n hn; omega
    | succ k ih =>
      intro n hn l st h
      rw [whileN, to_out]
      refine (step n l st h).mono fun q s hq => ?_
      rw [to_iteO]
      split
      · rename_i hq'
        rw [if_pos hq'] at hq
        cases e : b l s with
        | nx l' s' =>
          rw [e] at hq
          obtain ⟨m, hm, h'⟩ := hq
          exact ih m (by omega) l' s' h'
        | rt u s' => rw [e] at hq; exact hq
        | _ => rw [e] at hq; exact hq.elim
      · rename_i hq'
        rw [if_neg hq'] at hq
        exact hq
  have z := key (n + 1) n (Nat.lt_succ_self n) l st h
  have hne : whileN c b (n + 1) l st ≠ .no := by
    intro e; rw [e] at z; exact z
  rw [sWhile_of (n + 1) rfl hne]
  exact z
theorem for_to {d : ItD} {t : MT} {b : MS} {N : Loc → Sto → Prop} {R : U → Sto → Prop} {I : List PyData → Loc → Sto → Prop} (hk : ∀ xs l st, I xs l st → d.chk st)
    (step : ∀ x xs l st, I (x :: xs) l st → (t (.d x) l st).To fun l s => (b l s).To (I xs) R) (fin : ∀ l st, I [] l st → N l st) : ∀ (xs : List PyData) (l : Loc) (st : Sto), I xs l st → (forM d t b xs l st).To N R
  | [], l, st, h => by
    rw [forM, if_pos (hk _ _ _ h)]; exact fin l st h
  | x :: xs, l, st, h => by
    rw [forM, if_pos (hk _ _ _ h), to_out]
    refine (step x xs l st h).mono fun l1 s1 h1 => ?_
    cases e : b l1 s1 with
    | nx l2 s2 => rw [e] at h1; exact for_to hk step fin xs l2 s2 h1
    | rt u s2 => rw [e] at h1; exact h1
    | _ => rw [e] at h1; exact h1.elim
theorem chk_nil {xs : List PyData} : (ItD.mk xs []).chk st := fun p h => by cases h
@[simp] theorem to_sFor {mi : MI} {t : MT} {b : MS} {l : Loc} {N : Loc → Sto → Prop} {R : U → Sto → Prop} : (sFor mi t b l st).To N R ↔ (mi l st).To fun d s => (forM d t b d.items l s).To N R := by unfold sFor; simp
@[simp] theorem to_mR1 {a : MA} {l : Loc} {Q : ItD → Sto → Prop} : (mR1 a l st).To Q ↔ (a l st).To fun us s => ∃ j, us = [.d (.int j)] ∧ rOk j = true ∧ Q ⟨rangeD 0 1 j.toNat, []⟩ s := by
  unfold mR1
  rw [to_bind]
  cases a l st with
  | ok us s =>
    simp only [to_ok]
    split
    · rename_i j; simp
    · rename_i h
      constructor
      · exact fun z => z.elim
      · rintro ⟨j, rfl, _⟩; exact (h j rfl).elim
  | _ => exact Iff.rfl
@[simp] theorem to_mR2 {a : MA} {l : Loc} {Q : ItD → Sto → Prop} : (mR2 a l st).To Q ↔ (a l st).To fun us s => ∃ i j, us = [.d (.int i), .d (.int j)] ∧ (rOk i = true ∧ rOk j = true) ∧ Q ⟨rangeD i 1 (j - i).toNat, []⟩ s := by
  unfold mR2
  rw [to_bind]
  cases a l st with
  | ok us s =>
    simp only [to_ok]
    split
    · rename_i i j
      rw [to_ite]
      constructor
      · intro z
        split at z
        · rename_i h; exact ⟨i, j, rfl, (Bool.and_eq_true _ _).mp h, z⟩
        · exact z.elim
      · rintro ⟨i', j', e, h, z⟩
        cases e
        rw [if_pos ((Bool.and_eq_true _ _).mpr h)]; exact z
    · rename_i h
      constructor
      · exact fun z => z.elim
      · rintro ⟨i, j, rfl, _⟩; exact (h i j rfl).elim
  | _ => exact Iff.rfl
@[simp] theorem to_mAny {m : ME} {l : Loc} {Q : ItD → Sto → Prop} : (mAny m l st).To Q ↔ (m l st).To fun u s => ∃ xs own, srcOf s u = some (xs, own) ∧ Q ⟨xs, own⟩ s := by
  unfold mAny
  rw [to_bind]
  cases m l st with
  | ok u s =>
    simp only [to_ok]
    cases e : srcOf s u with
    | none => simp
    | some p => exact ⟨fun z => ⟨p.1, p.2, rfl, z⟩, fun ⟨xs, own, e, z⟩ => by cases e; exact z⟩
  | _ => exact Iff.rfl
@[simp] theorem to_mRev {m : ME} {l : Loc} {Q : ItD → Sto → Prop} : (mRev m l st).To Q ↔ (m l st).To fun u s => ∃ xs own, srcOf s u = some (xs, own) ∧ Q ⟨xs.reverse, own⟩ s := by
  unfold mRev
  rw [to_bind]
  cases m l st with
  | ok u s =>
    simp only [to_ok]
    cases e : srcOf s u with
    | none => simp
    | some p => exact ⟨fun z => ⟨p.1, p.2, rfl, z⟩, fun ⟨xs, own, e, z⟩ => by cases e; exact z⟩
  | _ => exact Iff.rfl
@[simp] theorem srcOf_list {xs : List PyData} : srcOf st (.d (.list xs)) = some (xs, []) := rfl
@[simp] theorem srcOf_tuple {xs : List PyData} : srcOf st (.d (.tuple xs)) = some (xs, []) := rfl
/-! comprehensions -/
theorem lc_to {d : ItD} {vs : List Nat} {t : MT} {c : MB} {m : ME} {l : Loc} {P : List PyData → Sto → Prop} {I : List PyData → List PyData → Sto → Prop} (hk : ∀ xs acc st, I xs acc st → d.chk st)
    (step : ∀ x xs acc st, I (x :: xs) acc st → (t (.d x) (wipeL l vs) st).To fun l1 s => (c l1 s).To fun b s => if b = true then (m l1 s).To fun u s => ∃ y, u = .d y ∧ I xs (acc ++ [y]) s else I xs acc s)
    (fin : ∀ acc st, I [] acc st → P acc st) : ∀ (xs acc : List PyData) (st : Sto), I xs acc st → (lcM d vs t c m l xs st).To fun ys s => P (acc ++ ys) s
  | [], acc, st, h => by
    rw [lcM, if_pos (hk _ _ _ h)]
    show P (acc ++ []) st
    rw [List.append_nil]; exact fin acc st h
  | x :: xs, acc, st, h => by
    rw [lcM, if_pos (hk _ _ _ h)]
    have h1 := step x xs acc st h
    cases e1 : t (.d x) (wipeL l vs) st with
    | ok l1 s1 =>
      rw [e1] at h1
      show ((c l1 s1).noX.bind _).To _
      have h2 : (c l1 s1).To _ := h1
      cases e2 : c l1 s1 with
      | ok b s2 =>
        rw [e2] at h2
        have h3 : if b = true then (m l1 s2).To fun u s => ∃ y, u = .d y ∧ I xs (acc ++ [y]) s else I xs acc s2 := h2
        show (if b = true then _ else _ : Res (List PyData)).To _
        rw [to_ite]
        cases b with
        | true =>
          rw [if_pos rfl] at h3 ⊢
          cases e3 : m l1 s2 with
          | ok u s3 =>
            rw [e3] at h3
            obtain ⟨y, rfl, h4⟩ := h3
            show ((lcM d vs t c m l xs s3).bind fun ys st => .ok (y :: ys) st).To _
            rw [to_bind]
            refine (lc_to hk step fin xs (acc ++ [y]) s3 h4).mono fun ys s h5 => ?_
            rw [List.append_assoc] at h5
            exact h5
          | ex e s3 => rw [e3] at h3; exact h3.elim
          | no => rw [e3] at h3; exact h3.elim
        | false =>
          rw [if_neg Bool.false_ne_true] at h3 ⊢
          exact lc_to hk step fin xs acc s2 h3
      | ex e s2 => rw [e2] at h2; exact h2.elim
      | no => rw [e2] at h2; exact h2.elim
    | ex e s1 => rw [e1] at h1; exact h1.elim
    | no => rw [e1] at h1; exact h1.elim
@[simp] theorem to_lLc {mi : MI} {vs : List Nat} {t : MT} {c : MB} {m : ME} {l : Loc} {P : List PyData → Sto → Prop} : (lLc mi vs t c m l st).To P ↔ (mi l st).To fun d s => d.items.length ≤ 16777216 ∧ (lcM d vs t c m l d.items s).To P := by
  unfold lLc
  rw [to_bind]
  cases mi l st with
  | ok d s => simp
  | _ => exact Iff.rfl
end
end NW

namespace NW
open PySem PySem.Spec PyProof.Rows L2
section
variable {l : Loc} {st : Sto} {Q : U → Sto → Prop} {P : Option Int → Sto → Prop}
@[simp] theorem to_oNone : (oNone l st).To P ↔ P none st := Iff.rfl
@[simp] theorem to_oSome {m : ME} : (oSome m l st).To P ↔ (m l st).To fun u s => ∃ i, u = .d (.int i) ∧ P (some i) s := by
  unfold oSome
  rw [to_bind]
  cases m l st with
  | ok u s =>
    simp only [to_ok]
    split
    · rename_i i; simp
    · rename_i h
      simp only [to_no, false_iff]
      rintro ⟨i, rfl, _⟩; exact h i rfl
  | _ => exact Iff.rfl
@[simp] theorem to_eSlAny {m : ME} {lo hi : MO} : (eSlAny m lo hi l st).To Q ↔ (m l st).To fun u s => (lo l s).To fun a s => (hi l s).To fun b s => (fSl u a b s).To Q := by unfold eSlAny; simp
@[simp] theorem to_slT {xs : List PyData} {a b : Option Int} : (fSl (.d (.tuple xs)) a b st).To Q ↔ Q (.d (.tuple (cutD xs a b))) st := Iff.rfl
@[simp] theorem to_slL {xs : List PyData} {a b : Option Int} : (fSl (.d (.list xs)) a b st).To Q ↔ Q (.d (.list (cutD xs a b))) st := Iff.rfl
@[simp] theorem to_addL {xs ys : List PyData} : (fAddA (.d (.list xs)) (.d (.list ys)) st).To Q ↔ xs.length + ys.length ≤ 16777216 ∧ Q (.d (.list (xs ++ ys))) st := by
  show (if lenOk (xs.length + ys.length) = true then Res.ok (U.d (.list (xs ++ ys))) st else .no).To Q ↔ _
  rw [to_ite]; simp only [lenOk_small, to_ok, to_no]; split
  · rename_i h; exact ⟨fun z => ⟨h, z⟩, fun z => z.2⟩
  · rename_i h; exact ⟨fun z => z.elim, fun z => h z.1⟩
@[simp] theorem to_addT {xs ys : List PyData} : (fAddA (.d (.tuple xs)) (.d (.tuple ys)) st).To Q ↔ xs.length + ys.length ≤ 16777216 ∧ Q (.d (.tuple (xs ++ ys))) st := by
  show (if lenOk (xs.length + ys.length) = true then Res.ok (U.d (.tuple (xs ++ ys))) st else .no).To Q ↔ _
  rw [to_ite]; simp only [lenOk_small, to_ok, to_no]; split
  · rename_i h; exact ⟨fun z => ⟨h, z⟩, fun z => z.2⟩
  · rename_i h; exact ⟨fun z => z.elim, fun z => h z.1⟩
end
theorem cutD_mem {xs : List PyData} {a b : Option Int} {x : PyData} (h : x ∈ cutD xs a b) : x ∈ xs := List.mem_of_mem_drop (List.mem_of_mem_take h)
theorem cutD_len {xs : List PyData} {a b : Option Int} : (cutD xs a b).length ≤ xs.length := by unfold cutD; simp; omega
theorem rt_true {o : Out} (h : o.To (fun _ _ => False) fun u _ => u = .d (.bool true)) : ∃ st', o = .rt (.d (.bool true)) st' := by
  cases o with
  | rt u s => cases (show u = _ from h); exact ⟨s, rfl⟩
  | nx l s => exact h.elim
  | _ => exact h.elim
end NW
namespace NW
open PySem PySem.Spec PyProof.Rows L2
section
variable {P : Program} {w : World} {K : PySem.W.Frag} {mg : Str → Option Value} {base : Heap} {N ps : List Str} {x : Str} {st : Stmt} {k n : Nat}
theorem calP0 (D : DefIn K mg x st ps) (S : FnScope N ps (defScope st)) : Cal P w K mg base k x ps (spP K n fun _ => .no) := by
  obtain ⟨f, fd, F, hm, hb'⟩ := D.ex
  refine ⟨f, fd, ⟨fun vs H Q E h => ?_, fun A outer s H args us vs Q E hr he hb hv h => ?_⟩, hm, F.kp, hb'⟩
  · obtain ⟨O0, ds, d, fr, _, _, _, e, _⟩ := h; cases e
  · obtain ⟨O0, ds, d, fr, _, _, _, e, _⟩ := h; cases e
theorem calF0 (D : DefIn K mg x st ps) (S : FnScope N ps (defScope st)) : Cal P w K mg base k x ps (spF K n fun _ _ => .no) := by
  obtain ⟨f, fd, F, hm, hb'⟩ := D.ex
  refine ⟨f, fd, ⟨fun vs H Q E h => ?_, fun A outer s H args us vs Q E hr he hb hv h => ?_⟩, hm, F.kp, hb'⟩
  · obtain ⟨fa, fb, O0, g, vs', ds, d, fr, g', _, _, _, _, _, _, _, _, _, e, _⟩ := h; cases e
  · obtain ⟨fa, fb, O0, g, vs', ds, d, fr, g', _, _, _, _, _, _, _, _, _, e, _⟩ := h; cases e
end
end NW

namespace NW
open PySem PySem.Spec PyProof.Rows L2
/-! running: own lists, tuples and lists made of others -/
@[simp] theorem put_mk {f : Option Fl} {o : List Ob} {i : Nat} {xs : List PyData} : Sto.put ⟨f, o⟩ i xs = ⟨f, o.set i (.lst xs)⟩ := rfl
@[simp] theorem add_mk {f : Option Fl} {o : List Ob} {xs : List PyData} : Sto.add ⟨f, o⟩ xs = ⟨f, o ++ [.lst xs]⟩ := rfl
section
variable {l : Loc} {st : Sto} {Q : U → Sto → Prop}
theorem ob_match {α : Type} {o : Option Ob} {k : List PyData → α} {z : α} {p : α → Prop} (hz : ¬ p z) : p (match o with | some (.lst xs) => k xs | _ => z) ↔ ∃ xs, o = some (.lst xs) ∧ p (k xs) := by
  cases o with
  | none => exact ⟨fun w => (hz w).elim, fun ⟨_, e, _⟩ => by cases e⟩
  | some x =>
    cases x with
    | lst xs => exact ⟨fun w => ⟨xs, rfl, w⟩, fun ⟨_, e, w⟩ => by cases e; exact w⟩
    | dead => exact ⟨fun w => (hz w).elim, fun ⟨_, e, _⟩ => by cases e⟩
@[simp] theorem listOf_ref {i : Nat} {xs : List PyData} : listOf st (.ref i) = some xs ↔ st.obs[i]? = some (.lst xs) := by
  show (match st.obs[i]? with | some (.lst xs) => some xs | _ => none) = some xs ↔ _
  split
  · rename_i ys e; simp [e]
  · rename_i h
    exact ⟨fun w => by simp at w, fun w => (h _ w).elim⟩
@[simp] theorem toTree_ref {i : Nat} {x : PyData} : toTree st (.ref i) = some x ↔ ∃ xs, st.obs[i]? = some (.lst xs) ∧ x = .list xs := by
  show (match st.obs[i]? with | some (.lst xs) => some (PyData.list xs) | _ => none) = some x ↔ _
  split
  · rename_i ys e; simp [e, eq_comm]
  · rename_i h
    exact ⟨fun w => by simp at w, fun ⟨ys, w, _⟩ => (h _ w).elim⟩
theorem seqOf_ref {i : Nat} : seqOf st (.ref i) = listOf st (.ref i) := by
  unfold seqOf
  cases listOf st (.ref i) <;> rfl
@[simp] theorem isLst_ref {i : Nat} : isLst st (.ref i) = true ↔ ∃ xs, st.obs[i]? = some (.lst xs) := by
  unfold isLst
  rw [Option.isSome_iff_exists]
  exact exists_congr fun xs => listOf_ref
@[simp] theorem isLst_list {xs : List PyData} : isLst st (.d (.list xs)) = true := rfl
@[simp] theorem to_ixR {k : Nat} {i : Int} : (fIx (.ref k) (.d (.int i)) st).To Q ↔ ∃ xs x, st.obs[k]? = some (.lst xs) ∧ ((idxN xs.length i).bind fun j => xs[j]?) = some x ∧ Q (.d x) st := by
  show (match seqOf st (.ref k) with
      | some xs => (match (idxN xs.length i).bind fun j => xs[j]? with
        | some x => Res.ok (U.d x) st
        | none => .no)
      | none => .no).To Q ↔ _
  rw [seqOf_ref]
  cases e : listOf st (.ref k) with
  | none =>
    refine ⟨fun w => w.elim, fun ⟨xs, x, h, _⟩ => ?_⟩
    rw [listOf_ref.mpr h] at e; cases e
  | some ys =>
    have e' := listOf_ref.mp e
    show (match (idxN ys.length i).bind fun j => ys[j]? with
        | some x => Res.ok (U.d x) st
        | none => .no).To Q ↔ _
    cases h : (idxN ys.length i).bind fun j => ys[j]? with
    | none =>
      refine ⟨fun w => w.elim, fun ⟨xs, x, h1, h2, _⟩ => ?_⟩
      rw [e'] at h1; cases h1; rw [h] at h2; cases h2
    | some x =>
      refine ⟨fun w => ⟨ys, x, e', h, w⟩, fun ⟨xs, x, h1, h2, h3⟩ => ?_⟩
      rw [e'] at h1; cases h1; rw [h] at h2; cases h2; exact h3
@[simp] theorem to_eMethL {f : U → List U → Sto → Res U} {o : ME} {a : MA} : (eMethL f o a l st).To Q ↔ (o l st).To fun x s => isLst s x = true ∧ (a l s).To fun us s => (f x us s).To Q := by
  unfold eMethL
  rw [to_bind]
  refine iff_of_eq (congrArg _ (funext fun x => funext fun s => propext ?_))
  rw [to_ite]
  split
  · rename_i h; simp [h]
  · rename_i h; simp [h]
@[simp] theorem ownL_ref {i j : Nat} {xs : List PyData} : ownL st (.ref i) = some (j, xs) ↔ st.obs[i]? = some (.lst xs) ∧ j = i := by
  show (match st.obs[i]? with | some (.lst xs) => some (i, xs) | _ => none) = some (j, xs) ↔ _
  split
  · rename_i ys e; simp [e, eq_comm, and_comm]
  · rename_i h
    exact ⟨fun w => by simp at w, fun ⟨w, _⟩ => (h _ w).elim⟩
@[simp] theorem to_append {k : Nat} {y : PyData} : (mAppend (.ref k) [.d y] st).To Q ↔ ∃ xs, st.obs[k]? = some (.lst xs) ∧ xs.length < 16777216 ∧ Q (.d .none) (st.put k (xs ++ [y])) := by
  unfold mAppend
  cases e : ownL st (.ref k) with
  | none =>
    refine ⟨fun w => w.elim, fun ⟨xs, h, _⟩ => ?_⟩
    rw [ownL_ref.mpr ⟨h, rfl⟩] at e; cases e
  | some p =>
    obtain ⟨j, ys⟩ := p
    obtain ⟨e1, rfl⟩ := ownL_ref.mp e
    show (if decide (ys.length < sizeLine) = true then Res.ok (U.d .none) (st.put j (ys ++ [y])) else .no).To Q ↔ _
    rw [to_ite]
    simp only [decide_eq_true_eq, sizeLine_eq]
    split
    · rename_i h
      exact ⟨fun w => ⟨ys, e1, h, w⟩, fun ⟨xs, h1, _, w⟩ => by rw [e1] at h1; cases h1; exact w⟩
    · rename_i h
      exact ⟨fun w => w.elim, fun ⟨xs, h1, h2, w⟩ => by rw [e1] at h1; cases h1; exact (h h2).elim⟩
@[simp] theorem srcOf_ref {i : Nat} {xs : List PyData} {own : List (Nat × List PyData)} : srcOf st (.ref i) = some (xs, own) ↔ st.obs[i]? = some (.lst xs) ∧ own = [(i, xs)] := by
  show (match st.obs[i]? with | some (.lst xs) => some (xs, [(i, xs)]) | _ => none) = some (xs, own) ↔ _
  split
  · rename_i ys e
    rw [e]
    constructor
    · intro h; cases h; exact ⟨rfl, rfl⟩
    · rintro ⟨h, rfl⟩; cases h; rfl
  · rename_i h
    exact ⟨fun w => by simp at w, fun ⟨w, _⟩ => (h _ w).elim⟩
theorem chk_one {xs ys : List PyData} {i : Nat} (h : st.obs[i]? = some (.lst ys)) : (ItD.mk xs [(i, ys)]).chk st := fun p hp => by
  have : p = (i, ys) := by simpa using hp
  subst this; exact h
end
/-- a comprehension whose state stays -/
theorem lc_mapO {d : ItD} {vs : List Nat} {t : MT} {c : MB} {m : ME} {l : Loc} {st : Sto} {g : PyData → PyData} {P : List PyData → Sto → Prop} {xs : List PyData} (hk : d.chk st)
    (h : ∀ x, x ∈ xs → (t (.d x) (wipeL l vs) st).To fun l1 s => (c l1 s).To fun b s => b = true ∧ (m l1 s).To fun u s => u = .d (g x) ∧ s = st) (fin : P (xs.map g) st) : (lcM d vs t c m l xs st).To P := by
  refine (lc_to (I := fun ys acc s => s = st ∧ ∃ zs, xs = zs ++ ys ∧ acc = zs.map g) (P := fun ys s => ys = xs.map g ∧ s = st) (fun _ _ _ z => z.1 ▸ hk) ?_ ?_ xs [] st ⟨rfl, [], rfl, rfl⟩).mono ?_
  · rintro x ys acc s ⟨rfl, zs, rfl, rfl⟩
    refine (h x (by simp)).mono ?_
    rintro l1 s1 h1
    refine h1.mono ?_
    rintro b s2 ⟨rfl, h2⟩
    rw [if_pos rfl]
    refine h2.mono ?_
    rintro u s3 ⟨rfl, rfl⟩
    exact ⟨_, rfl, rfl, zs ++ [x], by simp, by simp⟩
  · rintro acc s ⟨rfl, zs, rfl, rfl⟩
    simp
  · rintro ys s ⟨rfl, rfl⟩
    exact fin
end NW

namespace NW
open PySem PySem.Spec PyProof.Rows L2
/-! an own list becomes a value like others: it is written no more -/
def Sto.die (st : Sto) (i : Nat) : Sto := { st with obs := st.obs.set i .dead }
@[simp] theorem die_mk {f : Option Fl} {o : List Ob} {i : Nat} : Sto.die ⟨f, o⟩ i = ⟨f, o.set i .dead⟩ := rfl
section
variable {G : Gx} {β : List Addr} {st : Sto} {H : Hp} {v : V} {i : Nat} {p : Addr} {xs : List PyData}
theorem Own.die {q : Addr} (h : Own G β (st.die i) q) : Own G β st q := by
  rcases h with h | ⟨j, ys, h1, h2⟩
  · exact .inl h
  · by_cases e : j = i
    · subst e
      simp only [Sto.die] at h1
      by_cases hj : j < st.obs.length
      · rw [List.getElem?_set_self hj] at h1; cases h1
      · rw [List.getElem?_eq_none (by simp; omega)] at h1; cases h1
    · exact .inr ⟨j, ys, by simpa [Sto.die, List.getElem?_set_ne (Ne.symm e)] using h1, h2⟩
theorem die_own (rl : Rl G β H st) (h : st.obs[i]? = some (.lst xs)) (hp : β[i]? = some p) :
    Fut G β st H β (st.die i) H ∧ Rl G β H (st.die i) ∧ RT G.K (Ban G β (st.die i)) H (.ref p) (.list xs) := by
  have op : Own G β st p := .inr ⟨i, xs, h, hp⟩
  have hi := (List.getElem?_eq_some_iff.mp h).1
  have fO : Fut G β st H β (st.die i) H := ⟨⟨[], by simp, by simp⟩, fun _ h => h, fun b o h' n => ⟨h', fun w => n w.die⟩⟩
  have np : ¬ Own G β (st.die i) p := by
    rintro (⟨hf, e⟩ | ⟨j, ys, h1, h2⟩)
    · obtain ⟨f, hf⟩ := Option.isSome_iff_exists.mp hf
      exact (rl.flo f hf).2 (e ▸ List.mem_of_getElem? hp)
    · have e := ix_inj rl.nodup h2 hp
      subst e
      simp [Sto.die, hi] at h1
  refine ⟨fO, ⟨by simp [Sto.die, rl.len], rl.nodup, rl.trk, fun j zs h' => ?_, fun g hg => ?_, fun q hq => rl.o0_fut fO q hq fun w => (rl.o0 q hq).2.1 w.die⟩, ?_⟩
  · by_cases e : j = i
    · subst e; simp [Sto.die, hi] at h'
    · obtain ⟨q, ws, a, b, c⟩ := rl.ob j zs (by simpa [Sto.die, List.getElem?_set_ne (Ne.symm e)] using h')
      exact ⟨q, ws, a, b, fO.rts c⟩
  · obtain ⟨⟨a, b⟩, c⟩ := rl.flo g hg
    exact ⟨⟨a, b.fut fO⟩, c⟩
  · obtain ⟨q, vs, a, b, c⟩ := rl.ob i xs h
    rw [hp] at a; cases a
    exact .lst ⟨b, fun w => w.elim (fun w => (rl.o0 _ w).2.1 op) np⟩ (fO.rts c)
def eDie (m : ME) : ME := fun l st => (m l st).bind fun u st => match u with
  | .ref i => (match st.obs[i]? with
    | some (.lst xs) => .ok (.d (.list xs)) (st.die i)
    | _ => .no)
  | u => .ok u st
theorem s_die {t : TE} {m : ME} (h : SimE G t m) : SimE G t (eDie m) := fun β H σ l st re Q q => by
  refine h β H σ l st re _ (wpR_bind q fun v u H1 β1 st1 f1 rl1 p1 h1 => ?_)
  split at h1
  · rename_i i
    split at h1
    · rename_i xs e
      obtain ⟨p, hp, rfl⟩ := p1
      obtain ⟨f2, rl2, r⟩ := die_own rl1 e hp
      exact h1 _ H1 β1 f2 rl2 r
    · exact h1.elim
  · exact wpR_u rl1 p1 h1
end
theorem q_die {X : Cx} {e : Expr} {te : TE} {me : ME} (h : QE X e te me) : QE X e te (eDie me) := ⟨h.pe, fun G hG => s_die (h.sim G hG)⟩
section
variable {l : Loc} {st : Sto} {Q : U → Sto → Prop}
@[simp] theorem to_eDie {m : ME} : (eDie m l st).To Q ↔ (m l st).To fun u s => match u with
    | .ref i => ∃ xs, s.obs[i]? = some (Ob.lst xs) ∧ Q (.d (.list xs)) (s.die i)
    | u => Q u s := by
  unfold eDie
  rw [to_bind]
  refine iff_of_eq (congrArg _ (funext fun u => funext fun s => propext ?_))
  cases u with
  | ref i =>
    show (match s.obs[i]? with
      | some (.lst xs) => Res.ok (U.d (.list xs)) (s.die i)
      | _ => .no).To Q ↔ _
    split
    · rename_i xs e; simp [e]
    · rename_i h
      constructor
      · exact fun z => z.elim
      · rintro ⟨xs, e, _⟩; exact (h xs e).elim
  | _ => exact Iff.rfl
end
end NW

namespace NW
open PySem PySem.Spec PyProof.Rows L2
section
variable {l : Loc} {st : Sto} {Q : U → Sto → Prop}
theorem to_eqG {a b : U} {neg : Bool} : (opEq neg a b st).To Q ↔ ∃ x y, (toTree st a = some x ∧ toTree st b = some y) ∧ (SeqAt.shaped x = true ∧ SeqAt.shaped y = true) ∧ Q (.d (.bool (if neg then !PyData.eqv x y else PyData.eqv x y))) st := by
  unfold opEq
  cases e1 : toTree st a with
  | none => simp
  | some x =>
    cases e2 : toTree st b with
    | none => simp
    | some y =>
      simp
      exact ⟨fun h => ⟨x, y, ⟨rfl, rfl⟩, h⟩, fun ⟨_, _, ⟨h1, h2⟩, h⟩ => by cases h1; cases h2; exact h⟩
@[simp] theorem to_eqRD {i : Nat} {y : PyData} {neg : Bool} : (opEq neg (.ref i) (.d y) st).To Q ↔ ∃ xs, st.obs[i]? = some (Ob.lst xs) ∧ (SeqAt.shaped (.list xs) = true ∧ SeqAt.shaped y = true) ∧ Q (.d (.bool (if neg then !PyData.eqv (.list xs) y else PyData.eqv (.list xs) y))) st := by
  rw [to_eqG]
  constructor
  · rintro ⟨x, z, ⟨h1, h2⟩, h3, h4⟩
    obtain ⟨xs, h5, rfl⟩ := toTree_ref.mp h1
    cases h2
    exact ⟨xs, h5, h3, h4⟩
  · rintro ⟨xs, h1, h2, h3⟩
    exact ⟨_, _, ⟨toTree_ref.mpr ⟨xs, h1, rfl⟩, rfl⟩, h2, h3⟩
@[simp] theorem to_eqDR {i : Nat} {y : PyData} {neg : Bool} : (opEq neg (.d y) (.ref i) st).To Q ↔ ∃ xs, st.obs[i]? = some (Ob.lst xs) ∧ (SeqAt.shaped y = true ∧ SeqAt.shaped (.list xs) = true) ∧ Q (.d (.bool (if neg then !PyData.eqv y (.list xs) else PyData.eqv y (.list xs)))) st := by
  rw [to_eqG]
  constructor
  · rintro ⟨x, z, ⟨h1, h2⟩, h3, h4⟩
    obtain ⟨xs, h5, rfl⟩ := toTree_ref.mp h2
    cases h1
    exact ⟨xs, h5, h3, h4⟩
  · rintro ⟨xs, h1, h2, h3⟩
    exact ⟨_, _, ⟨rfl, toTree_ref.mpr ⟨xs, h1, rfl⟩⟩, h2, h3⟩
@[simp] theorem to_eqRR {i j : Nat} {neg : Bool} : (opEq neg (.ref i) (.ref j) st).To Q ↔ ∃ xs ys, (st.obs[i]? = some (Ob.lst xs) ∧ st.obs[j]? = some (Ob.lst ys)) ∧ (SeqAt.shaped (.list xs) = true ∧ SeqAt.shaped (.list ys) = true) ∧ Q (.d (.bool (if neg then !PyData.eqv (.list xs) (.list ys) else PyData.eqv (.list xs) (.list ys)))) st := by
  rw [to_eqG]
  constructor
  · rintro ⟨x, z, ⟨h1, h2⟩, h3, h4⟩
    obtain ⟨xs, h5, rfl⟩ := toTree_ref.mp h1
    obtain ⟨ys, h6, rfl⟩ := toTree_ref.mp h2
    exact ⟨xs, ys, ⟨h5, h6⟩, h3, h4⟩
  · rintro ⟨xs, ys, ⟨h1, h1'⟩, h2, h3⟩
    exact ⟨_, _, ⟨toTree_ref.mpr ⟨xs, h1, rfl⟩, toTree_ref.mpr ⟨ys, h1', rfl⟩⟩, h2, h3⟩
theorem addG {a b : U} (ha : ∀ xs, a = .d xs → ∃ ys, xs = .list ys) (hb : (∃ i, a = .ref i) ∨ ∃ j, b = .ref j) : (fAddA a b st).To Q ↔ ∃ xs ys, (listOf st a = some xs ∧ listOf st b = some ys) ∧ xs.length + ys.length ≤ 16777216 ∧ Q (.d (.list (xs ++ ys))) st := by
  have e : fAddA a b st = (match listOf st a, listOf st b with
    | some xs, some ys => if lenOk (xs.length + ys.length) = true then .ok (.d (.list (xs ++ ys))) st else .no
    | _, _ => .no) := by
    unfold fAddA
    split
    · rename_i i j
      obtain ⟨ys, e⟩ := ha _ rfl; cases e
    · obtain ⟨ys, e⟩ := ha _ rfl; cases e
    · obtain ⟨ys, e⟩ := ha _ rfl; cases e
    · rfl
  rw [e]
  cases e1 : listOf st a with
  | none => simp
  | some x =>
    cases e2 : listOf st b with
    | none => simp
    | some y =>
      show (if lenOk (x.length + y.length) = true then Res.ok (U.d (.list (x ++ y))) st else .no).To Q ↔ _
      rw [to_ite]
      simp only [lenOk_small]
      split
      · rename_i h; exact ⟨fun w => ⟨x, y, ⟨rfl, rfl⟩, h, w⟩, fun ⟨_, _, ⟨w1, w2⟩, _, w⟩ => by cases w1; cases w2; exact w⟩
      · rename_i h; exact ⟨fun w => w.elim, fun ⟨_, _, ⟨w1, w2⟩, w3, w⟩ => by cases w1; cases w2; exact (h w3).elim⟩
@[simp] theorem to_addRL {i : Nat} {ys : List PyData} : (fAddA (.ref i) (.d (.list ys)) st).To Q ↔ ∃ xs, st.obs[i]? = some (Ob.lst xs) ∧ xs.length + ys.length ≤ 16777216 ∧ Q (.d (.list (xs ++ ys))) st := by
  rw [addG (fun xs e => by cases e) (.inl ⟨i, rfl⟩)]
  constructor
  · rintro ⟨xs, zs, ⟨h1, h2⟩, h3, h4⟩
    cases h2
    exact ⟨xs, listOf_ref.mp h1, h3, h4⟩
  · rintro ⟨xs, h1, h3, h4⟩
    exact ⟨xs, ys, ⟨listOf_ref.mpr h1, rfl⟩, h3, h4⟩
@[simp] theorem to_addLR {i : Nat} {ys : List PyData} : (fAddA (.d (.list ys)) (.ref i) st).To Q ↔ ∃ xs, st.obs[i]? = some (Ob.lst xs) ∧ ys.length + xs.length ≤ 16777216 ∧ Q (.d (.list (ys ++ xs))) st := by
  rw [addG (fun xs e => by cases e; exact ⟨_, rfl⟩) (.inr ⟨i, rfl⟩)]
  constructor
  · rintro ⟨xs, zs, ⟨h1, h2⟩, h3, h4⟩
    cases h1
    exact ⟨zs, listOf_ref.mp h2, h3, h4⟩
  · rintro ⟨xs, h1, h3, h4⟩
    exact ⟨ys, xs, ⟨rfl, listOf_ref.mpr h1⟩, h3, h4⟩
@[simp] theorem to_addRR {i j : Nat} : (fAddA (.ref i) (.ref j) st).To Q ↔ ∃ xs ys, (st.obs[i]? = some (Ob.lst xs) ∧ st.obs[j]? = some (Ob.lst ys)) ∧ xs.length + ys.length ≤ 16777216 ∧ Q (.d (.list (xs ++ ys))) st := by
  rw [addG (fun xs e => by cases e) (.inl ⟨i, rfl⟩)]
  simp only [listOf_ref]
@[simp] theorem to_slR {i : Nat} {a b : Option Int} : (fSl (.ref i) a b st).To Q ↔ ∃ xs, st.obs[i]? = some (Ob.lst xs) ∧ Q (.d (.list (cutD xs a b))) st := by
  show (match listOf st (.ref i) with
    | some xs => Res.ok (U.d (.list (cutD xs a b))) st
    | none => .no).To Q ↔ _
  cases e : listOf st (.ref i) with
  | none => exact ⟨fun w => w.elim, fun ⟨xs, h, _⟩ => by rw [listOf_ref.mpr h] at e; cases e⟩
  | some xs =>
    have e' := listOf_ref.mp e
    exact ⟨fun w => ⟨xs, e', w⟩, fun ⟨ys, h, w⟩ => by rw [e'] at h; cases h; exact w⟩
theorem refL {α : Type} {i : Nat} {k : List PyData → Res α} {P : α → Sto → Prop} : (match seqOf st (.ref i) with | some xs => k xs | none => Res.no).To P ↔ ∃ xs, st.obs[i]? = some (Ob.lst xs) ∧ (k xs).To P := by
  rw [seqOf_ref]
  cases e : listOf st (.ref i) with
  | none => exact ⟨fun w => w.elim, fun ⟨xs, h, _⟩ => by rw [listOf_ref.mpr h] at e; cases e⟩
  | some xs =>
    have e' := listOf_ref.mp e
    exact ⟨fun w => ⟨xs, e', w⟩, fun ⟨ys, h, w⟩ => by rw [e'] at h; cases h; exact w⟩
@[simp] theorem to_lenR {i : Nat} : (cLen [.ref i] st).To Q ↔ ∃ xs, st.obs[i]? = some (Ob.lst xs) ∧ Q (.d (.int xs.length)) st := refL (k := fun xs => Res.ok (U.d (.int xs.length)) st)
@[simp] theorem to_listOfR {i : Nat} {P : List PyData → Sto → Prop} : (cListOf [.ref i] st).To P ↔ ∃ xs, st.obs[i]? = some (Ob.lst xs) ∧ P xs st := refL (k := fun xs => Res.ok xs st)
@[simp] theorem to_listOfL {xs : List PyData} {P : List PyData → Sto → Prop} : (cListOf [.d (.list xs)] st).To P ↔ P xs st := Iff.rfl
@[simp] theorem to_listOfT {xs : List PyData} {P : List PyData → Sto → Prop} : (cListOf [.d (.tuple xs)] st).To P ↔ P xs st := Iff.rfl
@[simp] theorem to_tupR {i : Nat} : (cTupOf [.ref i] st).To Q ↔ ∃ xs, st.obs[i]? = some (Ob.lst xs) ∧ Q (.d (.tuple xs)) st := by
  show (match listOf st (.ref i) with
    | some xs => Res.ok (U.d (.tuple xs)) st
    | none => .no).To Q ↔ _
  rw [← seqOf_ref]
  exact refL (k := fun xs => Res.ok (U.d (.tuple xs)) st)
/-- an item of an own list is written anew -/
theorem to_gSubG {o i : ME} {y : PyData} {P : Loc → Sto → Prop} (hy : ∀ x, y ≠ .int x) : (gSubM o i (.d y) l st).To P ↔ (o l st).To fun ou s => (i l s).To fun iu s => (match ou, iu with
  | .ref k, .d (.int j) => ∃ xs n, s.obs[k]? = some (.lst xs) ∧ idxN xs.length j = some n ∧ P l (s.put k (xs.set n y))
  | _, _ => False) := by
  unfold gSubM
  rw [to_bind]
  refine iff_of_eq (congrArg _ (funext fun ou => funext fun s => propext ?_))
  rw [to_bind]
  refine iff_of_eq (congrArg _ (funext fun iu => funext fun s => propext ?_))
  cases ou with
  | ref k =>
    cases iu with
    | d z =>
      cases z with
      | int j =>
        show (match s.obs[k]? with
          | some (.lst xs) => (match idxN xs.length j with
            | some n => Res.ok l (s.put k (xs.set n y))
            | none => .no)
          | _ => .no).To P ↔ _
        split
        · rename_i xs e
          split
          · rename_i n en; simp [e, en]
          · rename_i en; simp [e, en]
        · rename_i h
          constructor
          · exact fun z => z.elim
          · rintro ⟨xs, n, e, _⟩; exact (h xs e).elim
      | _ => exact Iff.rfl
    | _ => exact Iff.rfl
  | flow =>
    cases iu with
    | d z =>
      cases z with
      | int j =>
        cases y with
        | int x => exact absurd rfl (hy x)
        | _ => exact Iff.rfl
      | _ => exact Iff.rfl
    | _ => exact Iff.rfl
  | _ => exact Iff.rfl
@[simp] theorem to_gSubT {o i : ME} {ys : List PyData} {P : Loc → Sto → Prop} : (gSubM o i (.d (.tuple ys)) l st).To P ↔ (o l st).To fun ou s => (i l s).To fun iu s => (match ou, iu with
  | .ref k, .d (.int j) => ∃ xs n, s.obs[k]? = some (.lst xs) ∧ idxN xs.length j = some n ∧ P l (s.put k (xs.set n (.tuple ys)))
  | _, _ => False) := to_gSubG (fun x h => by cases h)
@[simp] theorem to_gSubL {o i : ME} {ys : List PyData} {P : Loc → Sto → Prop} : (gSubM o i (.d (.list ys)) l st).To P ↔ (o l st).To fun ou s => (i l s).To fun iu s => (match ou, iu with
  | .ref k, .d (.int j) => ∃ xs n, s.obs[k]? = some (.lst xs) ∧ idxN xs.length j = some n ∧ P l (s.put k (xs.set n (.list ys)))
  | _, _ => False) := to_gSubG (fun x h => by cases h)
@[simp] theorem to_maxL {ns : List Int} : (cMaxL [.d (.list (ns.map .int))] st).To Q ↔ ∃ m, maxI ns = some m ∧ Q (.d (.int m)) st := by
  unfold cMaxL cInts
  show (match intsOf (ns.map PyData.int) with | some ns => (match (maxI ns).map PyData.int with | some x => Res.ok (U.d x) st | none => .no) | none => .no).To Q ↔ _
  rw [intsOf_map]
  show (match (maxI ns).map PyData.int with | some x => Res.ok (U.d x) st | none => .no).To Q ↔ _
  cases maxI ns <;> simp
@[simp] theorem to_minL {ns : List Int} : (cMinL [.d (.list (ns.map .int))] st).To Q ↔ ∃ m, minI ns = some m ∧ Q (.d (.int m)) st := by
  unfold cMinL cInts
  show (match intsOf (ns.map PyData.int) with | some ns => (match (minI ns).map PyData.int with | some x => Res.ok (U.d x) st | none => .no) | none => .no).To Q ↔ _
  rw [intsOf_map]
  show (match (minI ns).map PyData.int with | some x => Res.ok (U.d x) st | none => .no).To Q ↔ _
  cases minI ns <;> simp
@[simp] theorem to_sumL {ns : List Int} : (cSum [.d (.list (ns.map .int))] st).To Q ↔ Q (.d (.int ns.sum)) st := by
  unfold cSum cInts
  show (match intsOf (ns.map PyData.int) with | some ns => Res.ok (U.d (.int ns.sum)) st | none => .no).To Q ↔ _
  rw [intsOf_map]
  exact Iff.rfl
end
/-- a comprehension with a condition, whose state stays -/
theorem lc_filt {d : ItD} {vs : List Nat} {t : MT} {c : MB} {m : ME} {l : Loc} {st : Sto} {p : PyData → Bool} {g : PyData → PyData} {P : List PyData → Sto → Prop} {xs : List PyData} (hk : d.chk st)
    (h : ∀ x, x ∈ xs → (t (.d x) (wipeL l vs) st).To fun l1 s => (c l1 s).To fun b s => b = p x ∧ if p x = true then (m l1 s).To fun u s => u = .d (g x) ∧ s = st else s = st) (fin : P ((xs.filter p).map g) st) : (lcM d vs t c m l xs st).To P := by
  refine (lc_to (I := fun ys acc s => s = st ∧ ∃ zs, xs = zs ++ ys ∧ acc = (zs.filter p).map g) (P := fun ys s => ys = (xs.filter p).map g ∧ s = st) (fun _ _ _ z => z.1 ▸ hk) ?_ ?_ xs [] st ⟨rfl, [], rfl, rfl⟩).mono ?_
  · rintro x ys acc s ⟨rfl, zs, rfl, rfl⟩
    refine (h x (by simp)).mono ?_
    rintro l1 s1 h1
    refine h1.mono ?_
    rintro b s2 ⟨rfl, h2⟩
    split
    · rename_i hp
      rw [if_pos hp] at h2
      refine h2.mono ?_
      rintro u s3 ⟨rfl, rfl⟩
      exact ⟨_, rfl, rfl, zs ++ [x], by simp, by simp [hp]⟩
    · rename_i hp
      rw [if_neg hp] at h2
      subst h2
      exact ⟨rfl, zs ++ [x], by simp, by simp [hp]⟩
  · rintro acc s ⟨rfl, zs, rfl, rfl⟩
    simp
  · rintro ys s ⟨rfl, rfl⟩
    exact fin
/-- the same over values that are told by others -/
theorem lc_mapA {α : Type} {f g : α → PyData} {d : ItD} {vs : List Nat} {t : MT} {c : MB} {m : ME} {l : Loc} {st : Sto} {P : List PyData → Sto → Prop} {as : List α} (hk : d.chk st)
    (h : ∀ a, a ∈ as → (t (.d (f a)) (wipeL l vs) st).To fun l1 s => (c l1 s).To fun b s => b = true ∧ (m l1 s).To fun u s => u = .d (g a) ∧ s = st) (fin : P (as.map g) st) : (lcM d vs t c m l (as.map f) st).To P := by
  refine (lc_to (I := fun ys acc s => s = st ∧ ∃ zs ws, as = zs ++ ws ∧ ys = ws.map f ∧ acc = zs.map g) (P := fun ys s => ys = as.map g ∧ s = st) (fun _ _ _ z => z.1 ▸ hk) ?_ ?_ (as.map f) [] st ⟨rfl, [], as, rfl, rfl, rfl⟩).mono ?_
  · rintro x ys acc s ⟨rfl, zs, ws, e1, e2, rfl⟩
    cases ws with
    | nil => cases e2
    | cons a ws =>
      cases e2
      refine (h a (by rw [e1]; simp)).mono ?_
      rintro l1 s1 h1
      refine h1.mono ?_
      rintro b s2 ⟨rfl, h2⟩
      rw [if_pos rfl]
      refine h2.mono ?_
      rintro u s3 ⟨rfl, rfl⟩
      exact ⟨_, rfl, rfl, zs ++ [a], ws, by rw [e1]; simp, rfl, by simp⟩
  · rintro acc s ⟨rfl, zs, ws, e1, e2, rfl⟩
    have : ws = [] := by cases ws with | nil => rfl | cons c bs => cases e2
    subst this
    simp [e1]
  · rintro ys s ⟨rfl, rfl⟩
    exact fin
theorem lc_filtA {α : Type} {f g : α → PyData} {p : α → Bool} {d : ItD} {vs : List Nat} {t : MT} {c : MB} {m : ME} {l : Loc} {st : Sto} {P : List PyData → Sto → Prop} {as : List α} (hk : d.chk st)
    (h : ∀ a, a ∈ as → (t (.d (f a)) (wipeL l vs) st).To fun l1 s => (c l1 s).To fun b s => b = p a ∧ if p a = true then (m l1 s).To fun u s => u = .d (g a) ∧ s = st else s = st) (fin : P ((as.filter p).map g) st) : (lcM d vs t c m l (as.map f) st).To P := by
  refine (lc_to (I := fun ys acc s => s = st ∧ ∃ zs ws, as = zs ++ ws ∧ ys = ws.map f ∧ acc = (zs.filter p).map g) (P := fun ys s => ys = (as.filter p).map g ∧ s = st) (fun _ _ _ z => z.1 ▸ hk) ?_ ?_ (as.map f) [] st ⟨rfl, [], as, rfl, rfl, rfl⟩).mono ?_
  · rintro x ys acc s ⟨rfl, zs, ws, e1, e2, rfl⟩
    cases ws with
    | nil => cases e2
    | cons a ws =>
      cases e2
      refine (h a (by rw [e1]; simp)).mono ?_
      rintro l1 s1 h1
      refine h1.mono ?_
      rintro b s2 ⟨rfl, h2⟩
      split
      · rename_i hp
        rw [if_pos hp] at h2
        refine h2.mono ?_
        rintro u s3 ⟨rfl, rfl⟩
        exact ⟨_, rfl, rfl, zs ++ [a], ws, by rw [e1]; simp, rfl, by simp [hp]⟩
      · rename_i hp
        rw [if_neg hp] at h2
        subst h2
        exact ⟨rfl, zs ++ [a], ws, by rw [e1]; simp, rfl, by simp [hp]⟩
  · rintro acc s ⟨rfl, zs, ws, e1, e2, rfl⟩
    have : ws = [] := by cases ws with | nil => rfl | cons c bs => cases e2
    subst this
    simp [e1]
  · rintro ys s ⟨rfl, rfl⟩
    exact fin
theorem range_map {n : Nat} : rangeD 0 1 n = (List.range n).map fun (i : Nat) => PyData.int i := by
  unfold rangeD
  refine List.map_congr_left fun i _ => ?_
  simp
end NW

namespace NW
open PySem PySem.Spec PyProof.Rows L2
/-! ### enumerate over a list or a tuple -/
theorem meets_enumerate_newB {v : Value} {o : Obj} {H : Heap → Prop} (B : Begins v o H) :
    Meets (Builtin.«enumerate.__new__» ⟨[.type "enumerate", v], []⟩) (fun _ R s => H s.heap ∧
      R (.ok (.ret (.ref (s.heap.push o).objs.size)))
        { s with heap := (s.heap.push o).push { cls := .type "enumerate", data := .fields #[.none, .bool false, .ref s.heap.objs.size, rawInt 0, .none, .none] } }) :=
  .of_wp fun prog w A R s h => by
    obtain ⟨hp, g, d, tk, os⟩ := s; obtain ⟨h1, h⟩ := h
    have hsub := sub_enumerate
    have q1 : ∀ {A' : Around} {E : Value → Shared → Prop} {Q : Value → Shared → Prop}, Q (.ref hp.objs.size) ⟨(hp.push o), g, d, tk, os⟩ → wpAny (model prog w) A' (pyIter v) Q E ⟨hp, g, d, tk, os⟩ :=
      fun q => B.iter prog w _ _ ⟨hp, g, d, tk, os⟩ _ (B.keeps _ _ h1 fun b o' e => e) q
    wp_walk
    refine wpAny_stack_any fun st => wpAny_pure ?_
    split
    · rename_i c _ _ _ _ _
      cases (c == Value.type "enumerate")
      · wp_walk using q1
        exact ⟨_, rfl, h⟩
      · wp_walk using q1
        exact ⟨_, rfl, h⟩
    · wp_walk using q1
      exact ⟨_, rfl, h⟩
section
variable {prog : Program} {w : World} {A : Around} {E : Value → Shared → Prop} {s : Shared}
theorem call_enumerate_tuple {l : Addr} {items : Array Value} {Q : Value → Shared → Prop} (hL : s.heap.IsTuple l items)
    (h : ∀ h', IsEnum h' (s.heap.objs.size + 1) s.heap.objs.size 0 .none → h'.IsTupleIter s.heap.objs.size l 0 → h'.objs.size = s.heap.objs.size + 2 →
      (∀ b o, s.heap.get? b = some o → h'.get? b = some o) → Q (.ref (s.heap.objs.size + 1)) { s with heap := h' }) :
    wpAny (model prog w) A (call (.type "enumerate") [.ref l]) Q E s := by
  refine callType_new F.called_enumerate (by decide) (F.typeCall_enumerate_1 _) (F.newCall_enumerate_1 _) (fun obj => F.args_object_init_2 obj _) F.entry_enumerate_new
    (meets_enumerate_newB (begins_tuple l items)) ⟨hL, ?_⟩
  have hz : (s.heap.push { cls := .type "tuple_iterator", data := .fields #[.ref l, .int 0 0] }).objs.size = s.heap.objs.size + 1 := Heap.size_push ..
  show _ ∧ _
  rw [hz]
  have he : IsEnum ((s.heap.push { cls := .type "tuple_iterator", data := .fields #[.ref l, .int 0 0] }).push
      { cls := .type "enumerate", data := .fields #[.none, .bool false, .ref s.heap.objs.size, rawInt 0, .none, .none] }) (s.heap.objs.size + 1) s.heap.objs.size 0 .none := by
    have := Heap.get?_push_size (s.heap.push { cls := .type "tuple_iterator", data := .fields #[.ref l, .int 0 0] })
      (o := { cls := .type "enumerate", data := .fields #[.none, .bool false, .ref s.heap.objs.size, rawInt 0, .none, .none] }) rfl
    rw [hz] at this; exact this
  refine ⟨⟨_, he, rfl⟩, h _ he ⟨_, Heap.get?_push_of_some _ (Heap.get?_push_size _ rfl), rfl, rfl⟩ (by rw [Heap.size_push, hz]) fun b o x => Heap.get?_push_of_some _ (Heap.get?_push_of_some _ x)⟩
end
theorem Draws.tupEnd {prog : Program} {w : World} {A : Around} (hh : A.handled = none) (it t : Addr) (hne : t ≠ it) (items : Array Value) (n : Nat) (hn : items[n]? = none) :
    Draws prog w A it [it, t] n (fun _ _ => False) (fun i h => i = n ∧ h.IsTupleIter it t n ∧ h.IsTuple t items) where
  live := fun _ _ st => let ⟨o, ho, _⟩ := st.2.1; ⟨o, ho⟩
  frame := fun _ _ _ st hk => ⟨st.1, st.2.1.at fun o e => hk it (by simp) o e, st.2.2.at fun o e => hk t (by simp) o e⟩
  item := fun i s Q E hi st hQ => by have := st.1; omega
  done := fun s Q E st hE => wpAny_nextOf_tuple_end hh st.2.1 st.2.2 hn hE
/-- the tuple at a, each item in a new pair -/
def IteT (K : PySem.W.Frag) (a : Addr) : It :=
  ⟨fun i H => ∃ (xs : List V) (x : V), SqT K H a xs ∧ xs[i]? = some x, fun i H v H' => ∃ T x, v = .ref T ∧ H T = none ∧ H' = upd H T (.tup [.int (i : Nat), x]) ∧ ∀ xs, SqT K H a xs → xs[i]? = some x, fun i H => ∃ xs : List V, SqT K H a xs ∧ xs.length ≤ i⟩
theorem turn_enumT {P : Program} {w : World} {K : PySem.W.Frag} {elts : List Expr} {kk : Nat} {tpos : Pos} (a e it : Addr) (ha : a ≠ it) (ha2 : a ≠ e) :
    Turn P w K (.Tuple elts kk tpos) (IteT K a) [e, it] e (fun i h => (∃ old, IsEnum h e it ((i : Nat) : Int) old) ∧ h.IsTupleIter it a i ∧ e ≠ it) where
  mem := by simp
  obj := fun i h st b hb => by
    obtain ⟨⟨old, he⟩, ⟨o, ho, hc, hd⟩, _⟩ := st
    have e' : b = e ∨ b = it := by simpa using hb
    rcases e' with z | z
    · rw [z]; exact ⟨_, he, fun v q => nomatch q⟩
    · rw [z]; exact ⟨o, ho, fun v q => by rw [hd] at q; cases q⟩
  keep := fun i h h' st k => let ⟨⟨old, he⟩, hi, hne⟩ := st; ⟨⟨old, k e (by simp) _ he⟩, hi.at fun o q => k it (by simp) o q, hne⟩
  item := by
    intro X hP hw hK hc i pins s σ H E I hf st hg
    subst hP hw hK
    obtain ⟨⟨old, he⟩, hit, hne⟩ := st
    obtain ⟨xs, x, hq, hx⟩ := hg
    obtain ⟨its, rv, p, hz⟩ := I.tuple hq
    obtain ⟨u, hu, ru⟩ := rv.get hx
    have hel : e < s.heap.objs.size := Heap.lt_size he
    have hil : it < s.heap.objs.size := by obtain ⟨_, q, _⟩ := hit; exact Heap.lt_size q
    have hu' : its.toArray[i]? = some u := by simpa using hu
    have hlt : i < its.toArray.size := by
      have := (List.getElem?_eq_some_iff.mp hu).1
      simpa using this
    refine wpAny_pyNext_enum_itemD (Draws.tuple (A := X.A.in1) (show X.A.in1.handled = none from I.ok.hd hc) it a ha its.toArray) he ⟨hit, (show s.heap.IsTuple a its.toArray from p)⟩ hlt hne (by simp [hne, Ne.symm ha2]) fun x' h' tk hx' ho hst hT hsz hk => ?_
    have ex : x' = u := Option.some.inj (hx'.symm.trans hu')
    subst ex
    refine ⟨_, rfl, wpAny_letOwnedTupleGo_enum (s := { s with heap := h', toks := tk + 1 }) ho fun h'' he' sb => ?_⟩
    have hT2 : h''.get? s.heap.objs.size = some { cls := .type "tuple", data := .seq #[.int i tk, x'] } := (sb.2 _ (Nat.ne_of_gt hel)).trans hT
    have new : ObjOk X.prog X.w (upd H s.heap.objs.size (.tup [.int (i : Nat), x])) h'' s.heap.objs.size (.tup [.int (i : Nat), x]) :=
      ⟨by show 2 ≤ sizeLine; decide, [.int i tk, x'], .cons ⟨_, rfl⟩ (.cons ru .nil), ⟨_, hT2, rfl, _, rfl⟩⟩
    have I1 : Inv X pins σ (upd H s.heap.objs.size (.tup [.int (i : Nat), x])) { s with heap := h'', toks := tk + 1 } :=
      I.turnedNew (ch := [e, it]) (fun b ob hb q => (sb.2 b (fun z => hb (by simp [z]))).trans (hk b ob (fun z => hb (by simp [z])) (fun z => hb (by simp [z])) q)) hf (Nat.le_refl _) new
    refine ⟨.ref s.heap.objs.size, _, I1, rfl, ⟨_, x, rfl, I.hok.fresh (Nat.le_refl _), rfl, fun ys hy => by rw [I.tuple_inj hy hq]; exact hx⟩, ⟨⟨x', ?_⟩, hst.1.at fun o q => (sb.2 it (Ne.symm hne)).trans q, hne⟩, fun b hb => ?_⟩
    · have e1 : ((i + 1 : Nat) : Int) = (i : Int) + 1 := by omega
      rw [e1]; exact he'
    · have hb' : b < s.heap.objs.size := by
        have e' : b = e ∨ b = it := by simpa using hb
        rcases e' with z | z
        · rw [z]; exact hel
        · rw [z]; exact hil
      rw [upd_ne (Nat.ne_of_lt hb')]
      exact (hf b hb).1
  done := by
    intro X hP hw hK hc i pins s σ H E I hf st hg
    subst hP hw hK
    obtain ⟨⟨old, he⟩, hit, hne⟩ := st
    obtain ⟨xs, hq, hx⟩ := hg
    obtain ⟨its, rv, p, hz⟩ := I.tuple hq
    obtain ⟨f0, f1, f2, f3, f4, f5⟩ := hf it (by simp)
    have hl := rv.length
    have hn : its.toArray[i]? = none := by simp; omega
    refine wpAny_pyNext_enum_endD (Draws.tupEnd (A := X.A.in1) (show X.A.in1.handled = none from I.ok.hd hc) it a ha its.toArray i hn) he ⟨rfl, hit, (show s.heap.IsTuple a its.toArray from p)⟩ fun h' eb => ?_
    exact ⟨rfl, I.turned (t' := s.toks) (fun b o hb q => eb b o hb q) f0 f1 f3 f4 f5⟩
  self := fun A i s Q E st h => let ⟨⟨_, he⟩, _⟩ := st; wpAny_pyIter_enum he h
def iEnumA (K : PySem.W.Frag) (ta : TA) : TI := fun σ H R => ta σ H fun vs H1 => ∃ a, vs = [.ref a] ∧ (((∃ xs, SqL K H1 a xs) ∧ R (Ite K a) H1) ∨ ((∃ xs, SqT K H1 a xs) ∧ R (IteT K a) H1))
theorem pi_enumA {X : Cx} {e : Expr} {ta : TA} {p pos tpos : Pos} {elts : List Expr} {kk : Nat} (hg : Gl X "enumerate") (hm : X.mg "enumerate" = none) (ha : PA X [e] ta) (hs : starEach [e] X.env = [(false, eval e X.env)] := by rfl) :
    PI X (.Tuple elts kk tpos) (.Call (.Name "enumerate" p) [e] [] pos) (iEnumA X.K ta) := by
  refine ⟨fun pins s σ H R I h => ?_⟩
  refine Call_ (ld_blt I hg hm boot_enumerate (PyProof.Rows.callWith_type1 (thn (ha.run pos pins s σ H _ I h) fun us s1 ⟨vs, H1, I1, r1, q1⟩ => ?_) hs rfl))
  obtain ⟨a, ex, q⟩ := q1
  subst ex
  cases r1 with
  | cons r rr =>
    cases rr
    cases r
    rcases q with ⟨⟨xs, hq⟩, q⟩ | ⟨⟨xs, hq⟩, q⟩
    · obtain ⟨its, rv, p', hz⟩ := I1.list hq
      refine call_enumerate_list p'.isList fun h' he hit hsz hk => wpAny_pyIter_enum he ?_
      have I2 : Inv X pins σ H1 { s1 with heap := h' } := I1.kept (t' := s1.toks) hk
      refine ⟨s1.heap.objs.size + 1, [s1.heap.objs.size + 1, s1.heap.objs.size], _, _, H1, rfl, I2, turn_enum a (s1.heap.objs.size + 1) s1.heap.objs.size, ⟨⟨.none, he⟩, hit, Nat.succ_ne_self _⟩, fun b hb => ?_, q⟩
      have e' : b = s1.heap.objs.size + 1 ∨ b = s1.heap.objs.size := by simpa using hb
      have hle : s1.heap.objs.size ≤ b := by
        rcases e' with z | z
        · rw [z]; exact Nat.le_add_right _ _
        · rw [z]; exact Nat.le_refl _
      exact I1.fpOk hle (I1.hok.fresh hle)
    · obtain ⟨its, rv, p', hz⟩ := I1.tuple hq
      have pt : s1.heap.IsTuple a its.toArray := p'
      have hal : a < s1.heap.objs.size := by obtain ⟨_, q, _⟩ := pt; exact Heap.lt_size q
      refine call_enumerate_tuple pt fun h' he hit hsz hk => wpAny_pyIter_enum he ?_
      have I2 : Inv X pins σ H1 { s1 with heap := h' } := I1.kept (t' := s1.toks) hk
      refine ⟨s1.heap.objs.size + 1, [s1.heap.objs.size + 1, s1.heap.objs.size], _, _, H1, rfl, I2, turn_enumT a (s1.heap.objs.size + 1) s1.heap.objs.size (Nat.ne_of_lt hal) (Nat.ne_of_lt (Nat.lt_succ_of_lt hal)), ⟨⟨.none, he⟩, hit, Nat.succ_ne_self _⟩, fun b hb => ?_, q⟩
      have e' : b = s1.heap.objs.size + 1 ∨ b = s1.heap.objs.size := by simpa using hb
      have hle : s1.heap.objs.size ≤ b := by
        rcases e' with z | z
        · rw [z]; exact Nat.le_add_right _ _
        · rw [z]; exact Nat.le_refl _
      exact I1.fpOk hle (I1.hok.fresh hle)
def enumD (xs : List PyData) : List PyData := xs.zipIdx.map fun p => .tuple [.int (p.2 : Nat), p.1]
theorem enumD_get {xs : List PyData} {i : Nat} {y : PyData} (h : (enumD xs)[i]? = some y) : ∃ x, xs[i]? = some x ∧ y = .tuple [.int (i : Nat), x] := by
  unfold enumD at h
  rw [List.getElem?_map, List.getElem?_zipIdx] at h
  cases e : xs[i]? with
  | none => rw [e] at h; cases h
  | some x => rw [e] at h; simp at h; exact ⟨x, rfl, h.symm⟩
@[simp] theorem enumD_len {xs : List PyData} : (enumD xs).length = xs.length := by simp [enumD]
section
variable {G : Gx} {β : List Addr} {st : Sto} {H : Hp}
theorem pair_rt {G : Gx} {β : List Addr} {st : Sto} {H : Hp} {T : Addr} {i : Nat} {x : V} {y : PyData} (rl : Rl G β H st) (hT : H T = none) (r : RT G.K (Ban G β st) H x y) :
    RT G.K (Ban G β st) (upd H T (.tup [.int (i : Nat), x])) (.ref T) (.tuple [.int (i : Nat), y]) := by
  have f : Fut G β st H β st (upd H T (.tup [.int (i : Nat), x])) := Fut.new hT
  exact .tup (.inl ⟨.inl upd_same, rl.notBan hT⟩) (.cons (.int _) (.cons (f.rt r) .nil))
theorem ite_r {p : Addr} {own : List (Nat × List PyData)} {xs : List PyData} (s : SrcL G β st H p own xs) : ItR G β st H (Ite G.K p) ⟨enumD xs, own⟩ := fun O1 hO β1 H1 st1 f rl1 hk i => by
  obtain ⟨vs, sq, r⟩ := s O1 hO β1 H1 st1 f rl1 hk
  refine ⟨fun y hy => ?_, fun hi => ⟨vs, sq, by rw [r.len]; simpa using hi⟩⟩
  obtain ⟨y, hy2, rfl⟩ := enumD_get hy
  obtain ⟨w, hw, rw'⟩ := r.get hy2
  refine ⟨⟨vs, w, sq, hw⟩, fun x H' hyl => ?_⟩
  obtain ⟨T, x', rfl, hT, rfl, hx⟩ := hyl
  have e : w = x' := Option.some.inj (hw.symm.trans (hx vs sq))
  subst e
  exact ⟨.inr ⟨T, _, hT, rfl⟩, pair_rt rl1 hT rw'⟩
theorem iteT_r {p : Addr} {xs : List PyData} (s : SrcT G β st H p xs) : ItR G β st H (IteT G.K p) ⟨enumD xs, []⟩ := fun O1 hO β1 H1 st1 f rl1 hk i => by
  obtain ⟨vs, sq, r⟩ := s O1 hO β1 H1 st1 f rl1
  refine ⟨fun y hy => ?_, fun hi => ⟨vs, sq, by rw [r.len]; simpa using hi⟩⟩
  obtain ⟨y, hy2, rfl⟩ := enumD_get hy
  obtain ⟨w, hw, rw'⟩ := r.get hy2
  refine ⟨⟨vs, w, sq, hw⟩, fun x H' hyl => ?_⟩
  obtain ⟨T, x', rfl, hT, rfl, hx⟩ := hyl
  have e : w = x' := Option.some.inj (hw.symm.trans (hx vs sq))
  subst e
  exact ⟨.inr ⟨T, _, hT, rfl⟩, pair_rt rl1 hT rw'⟩
def mEnum (a : MA) : MI := fun l st => (a l st).bind fun us st => match us with
  | [u] => (match srcOf st u with
    | some (xs, own) => .ok ⟨enumD xs, own⟩ st
    | none => .no)
  | _ => .no
theorem i_enumA {ta : TA} {a : MA} (h : SimA G ta a) : SimI G (iEnumA G.K ta) (mEnum a) := fun β H σ l st re R q => by
  refine h β H σ l st re _ (wpR_bind q fun vs us H1 β1 st1 f1 rl1 p1 h1 => ?_)
  split at h1
  · rename_i u
    split at h1
    · rename_i xs own e
      obtain ⟨v, rfl, r⟩ := one_u p1
      obtain ⟨p, rfl, ⟨s, vs, sq, _⟩ | ⟨rfl, s, vs, sq, _⟩⟩ := src_q rl1 r e
      · exact ⟨p, rfl, .inl ⟨⟨vs, sq⟩, h1 _ H1 β1 Fut.refl rl1 (ite_r s)⟩⟩
      · exact ⟨p, rfl, .inr ⟨⟨vs, sq⟩, h1 _ H1 β1 Fut.refl rl1 (iteT_r s)⟩⟩
    · exact h1.elim
  · exact h1.elim
end
theorem qi_enum {X : Cx} {e : Expr} {tA : TA} {mA : MA} {p pos tpos : Pos} {elts : List Expr} {kk : Nat} (hm : X.mg "enumerate" = none) (h : QA X [e] tA mA) (hg : Gl X "enumerate" := by rfl) (hs : starEach [e] X.env = [(false, eval e X.env)] := by rfl) :
    QI X (.Tuple elts kk tpos) (.Call (.Name "enumerate" p) [e] [] pos) (iEnumA X.K tA) (mEnum mA) := ⟨pi_enumA hg hm h.pa hs, fun G hG => hG ▸ i_enumA (h.sim G hG)⟩
section
variable {l : Loc} {st : Sto}
@[simp] theorem to_mEnum {a : MA} {Q : ItD → Sto → Prop} : (mEnum a l st).To Q ↔ (a l st).To fun us s => ∃ u xs own, us = [u] ∧ srcOf s u = some (xs, own) ∧ Q ⟨enumD xs, own⟩ s := by
  unfold mEnum
  rw [to_bind]
  cases a l st with
  | ok us s =>
    simp only [to_ok]
    split
    · rename_i u
      cases e : srcOf s u with
      | none =>
        refine ⟨fun z => z.elim, ?_⟩
        rintro ⟨u', xs, own, e1, e2, _⟩
        cases e1; rw [e] at e2; cases e2
      | some p =>
        refine ⟨fun z => ⟨u, p.1, p.2, rfl, e, z⟩, ?_⟩
        rintro ⟨u', xs, own, e1, e2, z⟩
        cases e1; rw [e] at e2; cases e2; exact z
    · rename_i h
      refine ⟨fun z => z.elim, ?_⟩
      rintro ⟨u, xs, own, e1, _⟩
      exact (h u e1).elim
  | _ => exact Iff.rfl
end
end NW

namespace NW
open PySem PySem.Spec PyProof.Rows L2
section
variable {l : Loc} {st : Sto} {Q : U → Sto → Prop}
theorem fCallP_G {k : Nat} {m : List PyData → Rp} {us : List U} {ds : List PyData} (h : ctrees st us = some ds) (hk : ds.length = k) : (fCallP k m us st).To Q ↔ (m ds).To fun d => (us.any isRef = true → noLst d = true) ∧ Q (.d d) st := by
  unfold fCallP
  rw [h]
  simp only [hk, if_true]
  cases m ds with
  | ok d fr =>
    show (if (!us.any isRef || noLst d) = true then Res.ok (U.d d) st else .no).To Q ↔ _
    rw [to_ite]
    show _ ↔ ((us.any isRef = true → noLst d = true) ∧ Q (U.d d) st)
    cases us.any isRef <;> cases noLst d <;> simp
  | _ => exact Iff.rfl
theorem ctrees_none {us : List U} (h : ctrees st us = none) {k : Nat} {m : List PyData → Rp} : ¬ (fCallP k m us st).To Q := by
  unfold fCallP; rw [h]; exact id
theorem toTree_refN {i : Nat} (h : ∀ xs, st.obs[i]? ≠ some (Ob.lst xs)) : toTree st (.ref i) = none := by
  cases e : toTree st (.ref i) with
  | none => rfl
  | some x => obtain ⟨xs, h1, _⟩ := toTree_ref.mp e; exact absurd h1 (h xs)
@[simp] theorem callP_R {i : Nat} {m : List PyData → Rp} : (fCallP 1 m [.ref i] st).To Q ↔ ∃ xs, st.obs[i]? = some (Ob.lst xs) ∧ (m [.list xs]).To fun d => noLst d = true ∧ Q (.d d) st := by
  by_cases hx : ∃ xs, st.obs[i]? = some (Ob.lst xs)
  · obtain ⟨xs, hx⟩ := hx
    have e : ctrees st [.ref i] = some [.list xs] := by rw [ctrees, toTree_ref.mpr ⟨xs, hx, rfl⟩]; rfl
    refine (fCallP_G e rfl).trans ?_
    simp [hx, isRef]
  · have hx' : ∀ xs, st.obs[i]? ≠ some (Ob.lst xs) := fun xs h => hx ⟨xs, h⟩
    have e : ctrees st [.ref i] = none := by rw [ctrees, toTree_refN hx']
    exact ⟨fun h => (ctrees_none e h).elim, fun ⟨xs, h, _⟩ => (hx' xs h).elim⟩
@[simp] theorem callP_RD {i : Nat} {y : PyData} {m : List PyData → Rp} : (fCallP 2 m [.ref i, .d y] st).To Q ↔ ∃ xs, st.obs[i]? = some (Ob.lst xs) ∧ (m [.list xs, y]).To fun d => noLst d = true ∧ Q (.d d) st := by
  by_cases hx : ∃ xs, st.obs[i]? = some (Ob.lst xs)
  · obtain ⟨xs, hx⟩ := hx
    have e : ctrees st [.ref i, .d y] = some [.list xs, y] := by rw [ctrees, toTree_ref.mpr ⟨xs, hx, rfl⟩]; rfl
    refine (fCallP_G e rfl).trans ?_
    simp [hx, isRef]
  · have hx' : ∀ xs, st.obs[i]? ≠ some (Ob.lst xs) := fun xs h => hx ⟨xs, h⟩
    have e : ctrees st [.ref i, .d y] = none := by rw [ctrees, toTree_refN hx']
    exact ⟨fun h => (ctrees_none e h).elim, fun ⟨xs, h, _⟩ => (hx' xs h).elim⟩
@[simp] theorem callP_DR {i : Nat} {y : PyData} {m : List PyData → Rp} : (fCallP 2 m [.d y, .ref i] st).To Q ↔ ∃ xs, st.obs[i]? = some (Ob.lst xs) ∧ (m [y, .list xs]).To fun d => noLst d = true ∧ Q (.d d) st := by
  by_cases hx : ∃ xs, st.obs[i]? = some (Ob.lst xs)
  · obtain ⟨xs, hx⟩ := hx
    have e : ctrees st [.d y, .ref i] = some [y, .list xs] := by rw [ctrees, ctrees, toTree_ref.mpr ⟨xs, hx, rfl⟩]; rfl
    refine (fCallP_G e rfl).trans ?_
    simp [hx, isRef]
  · have hx' : ∀ xs, st.obs[i]? ≠ some (Ob.lst xs) := fun xs h => hx ⟨xs, h⟩
    have e : ctrees st [.d y, .ref i] = none := by rw [ctrees, ctrees, toTree_refN hx']; rfl
    exact ⟨fun h => (ctrees_none e h).elim, fun ⟨xs, h, _⟩ => (hx' xs h).elim⟩
@[simp] theorem to_max2 {i j : Int} : (cMax2 [.d (.int i), .d (.int j)] st).To Q ↔ Q (.d (.int (if j > i then j else i))) st := Iff.rfl
@[simp] theorem to_min2 {i j : Int} : (cMin2 [.d (.int i), .d (.int j)] st).To Q ↔ Q (.d (.int (if j < i then j else i))) st := Iff.rfl
end
theorem rel_int (i : Int) (t : Tok) : L2.RelV (.int i) (Value.int i t) := ⟨t, rfl⟩
theorem rel_str (x : Str) (t : Tok) : L2.RelV (.str x) (Value.str x t) := ⟨t, rfl⟩
theorem rel_ref (a : Addr) : L2.RelV (.ref a) (Value.ref a) := rfl
theorem sz_ok {n : Nat} (h : n ≤ 1000) : n ≤ sizeLine := by rw [sizeLine_eq]; omega
end NW

namespace NW
open PySem PySem.Spec PyProof.Rows L2
/-! a, b, .. = a tuple or a list -/
def gSeq (K : PySem.W.Frag) (n : Nat) (t : TGs) : TG := fun v σ H Q => gTup K n t v σ H Q ∨ gLst K n t v σ H Q
def gSeqM (n : Nat) (r : MTs) : MT := fun u l st => match seqOf st u with
  | some xs => if xs.length = n then r xs l st else .no
  | none => .no
theorem g_seq {G : Gx} {vs : List Nat} {n : Nat} {gs : TGs} {r : MTs} (h : SimGs G vs gs r) : SimG G vs (gSeq G.K n gs) (gSeqM n r) := fun β H σ l st re v u q Q hw => by
  unfold gSeqM at hw
  split at hw
  · rename_i xs e0
    split at hw
    · rename_i e
      obtain ⟨p, ws, rfl, s, r'⟩ := seq_q re.rl q e0
      rcases s with s | s
      · exact .inr ⟨p, ws, rfl, s, by rw [r'.len]; exact e, h β H σ l st re ws xs r' Q hw⟩
      · exact .inl ⟨p, ws, rfl, s, by rw [r'.len]; exact e, h β H σ l st re ws xs r' Q hw⟩
    · exact hw.elim
  · exact hw.elim
theorem gSeq_noEx {n : Nat} {r : MTs} (h : ∀ ds l st, (r ds l st).noEx) (u : U) (l : Loc) (st : Sto) : (gSeqM n r u l st).noEx := by
  unfold gSeqM
  split
  · split
    · exact h _ _ _
    · trivial
  · trivial
theorem pg_seq {X : Cx} {pos : Pos} {es : List Expr} {k : Nat} {t : TGs} {n : Nat} (hc : X.calm = true) (h : PGs X es t)
    (hn : (assignEach es X.env).length = n := by rfl) (hst : (assignEach es X.env).findIdx? (·.1) = none := by rfl) : PG X (.Tuple es k pos) (gSeq X.K n t) :=
  ⟨fun pins s σ H v u Q I r hw => hw.elim ((pg_tup hc h hn hst).run pins s σ H v u Q I r) ((pg_lst hc h hn hst).run pins s σ H v u Q I r)⟩
theorem qg_seq {X : Cx} {pos : Pos} {es : List Expr} {vs : List Nat} {gs : TGs} {ms : MTs} {k : Nat} {n : Nat} (hc : X.calm = true) (h : QGs X vs es gs ms) (hn : (assignEach es X.env).length = n := by rfl) (hst : (assignEach es X.env).findIdx? (·.1) = none := by rfl) : QG X vs (.Tuple es k pos) (gSeq X.K n gs) (gSeqM n ms) :=
  ⟨pg_seq hc h.pgs hn hst, fun G hG => hG ▸ g_seq (h.sim G hG)⟩
section
variable {l : Loc} {st : Sto}
@[simp] theorem to_gSeqT {n : Nat} {r : MTs} {xs : List PyData} {P : Loc → Sto → Prop} : (gSeqM n r (.d (.tuple xs)) l st).To P ↔ xs.length = n ∧ (r xs l st).To P := by
  show (if xs.length = n then r xs l st else .no).To P ↔ _
  rw [to_ite]; split <;> simp [*]
@[simp] theorem to_gSeqL {n : Nat} {r : MTs} {xs : List PyData} {P : Loc → Sto → Prop} : (gSeqM n r (.d (.list xs)) l st).To P ↔ xs.length = n ∧ (r xs l st).To P := by
  show (if xs.length = n then r xs l st else .no).To P ↔ _
  rw [to_ite]; split <;> simp [*]
end
end NW

namespace NW
open PySem PySem.Spec PyProof.Rows L2
/-! a list that a call hands back becomes an own one -/
section
variable {G : Gx} {β : List Addr} {st : Sto} {H H' : Hp}
theorem adopt (rl : Rl G β H st) (kk : ∀ b o, H b = some o → H' b = some o) {p : Addr} {ws : List V} {ys : List PyData} (hp : H p = none) (hp' : H' p = some (.lst ws)) (r : RTs G.K (fun q => Ban G β st q ∨ q = p) H' ws ys) :
    Fut G β st H (β ++ [p]) (st.add ys) H' ∧ Rl G (β ++ [p]) H' (st.add ys) := by
  have fO : Fut G β st H (β ++ [p]) (st.add ys) H' := by
    refine ⟨⟨[p], rfl, by simp [hp]⟩, fun b h => ?_, fun b o' h n => ⟨kk b o' h, fun w => ?_⟩⟩
    · cases e : H b with
      | none => exact absurd e h
      | some o => rw [kk b o e]; simp
    · rcases (Own.add rl.len).mp w with w | w
      · exact n w
      · subst w; rw [hp] at h; cases h
  refine ⟨fO, by simp [Sto.add, rl.len], ?_, fun q hq => ?_, fun i zs h => ?_, fun g hg => ?_, fun q hq => rl.o0_fut fO q hq fun w => ?_⟩
  · rw [List.nodup_append]
    refine ⟨rl.nodup, by simp, fun a ha b hb e => ?_⟩
    have hb' : b = p := by simpa using hb
    subst e hb'
    exact rl.trk _ ha hp
  · rcases List.mem_append.mp hq with w | w
    · exact fO.there q (rl.trk q w)
    · have w' : q = p := by simpa using w
      rw [w', hp']; simp
  · unfold Sto.add at h
    by_cases hi : i < st.obs.length
    · rw [List.getElem?_append_left hi] at h
      obtain ⟨q, vs, a, b, c⟩ := rl.ob i zs h
      exact ⟨q, vs, by rw [List.getElem?_append_left (List.getElem?_eq_some_iff.mp a).1]; exact a, kk _ _ b, fO.rts c⟩
    · have e : i = st.obs.length := by
        have := (List.getElem?_eq_some_iff.mp h).1
        simp at this; omega
      subst e
      simp at h; subst h
      refine ⟨p, ws, by rw [← rl.len]; simp, hp', RTs.weak (fun q w => ?_) _ _ r⟩
      rcases w with w | w
      · exact .inl (.inl w)
      · rcases (Own.add rl.len).mp w with w | w
        · exact .inl (.inr w)
        · exact .inr w
  · obtain ⟨⟨a, b⟩, c⟩ := rl.flo g hg
    refine ⟨⟨kk _ _ a, b.fut fO⟩, fun w => ?_⟩
    rcases List.mem_append.mp w with w | w
    · exact c w
    · have w' : G.fa = p := by simpa using w
      rw [w', hp] at a; cases a
  · rcases (Own.add rl.len).mp w with w | w
    · exact (rl.o0 q hq).2.1 w
    · subst w; exact (rl.o0 _ hq).1 hp
end
def fCallO (k : Nat) (m : List PyData → Rp) (us : List U) (st : Sto) : Res U := match ctrees st us with
  | some ds => if ds.length = k then (match m ds with
    | .ok (.list ys) true => if noLsts ys = true then .ok (.ref st.obs.length) (st.add ys) else .no
    | _ => .no) else .no
  | none => .no
def eCallO (k : Nat) (m : List PyData → Rp) (a : MA) : ME := fun l st => (a l st).bind (fCallO k m)
section
variable {G : Gx}
theorem s_callO {k : Nat} {m : List PyData → Rp} {ta : TA} {a : MA} {E : XK} (ha : SimA G ta a) : SimE G (tCall (spP G.K k m) [] E ta) (eCallO k m a) := fun β H σ l st re Q h => by
  refine ha β H σ l st re _ (wpR_bind h fun vs us H1 β1 st1 f1 rl1 p1 h1 => ?_)
  show spP G.K k m (vs ++ []) H1 Q E
  rw [List.append_nil]
  unfold fCallO at h1
  split at h1
  · rename_i ds e
    split at h1
    · rename_i hk
      split at h1
      · rename_i ys e2
        split at h1
        · rename_i hc
          have fin : ∀ (O0 : Addr → Prop) v H', (∀ b o, H1 b = some o → H' b = some o) → Fresh G.K O0 H1 H' v (.list ys) → Q v H' := fun O0 v H' kk fr => by
            obtain ⟨p, ws, zs, rfl, hp, hp', ed, r⟩ := fr
            cases ed
            obtain ⟨f2, rl2⟩ := rl1.grown kk
            have hB : ∀ q vs, Rd H' q (.tup vs) → ¬ (Ban G β1 st1 q ∨ q = p) := fun q vs z w => by
              rcases w with w | w
              · exact rl2.tupB z w
              · subst w
                rcases z with z | ⟨o, z⟩ <;> (rw [hp'] at z; cases z)
            have r' := RTs.noLst hB ys ws hc r
            obtain ⟨f3, rl3⟩ := adopt rl1 kk hp hp' r'
            exact h1 _ H' (β1 ++ [p]) f3 rl3 ⟨p, by rw [← rl1.len]; simp, rfl⟩
          by_cases hr : us.any isRef = false
          · exact ⟨Ban G β1 st1, ds, .list ys, true, rl1.noTupB, ctrees_r p1 e hr, hk, e2, fun v H' kk rt fr => fin _ v H' kk (fr rfl)⟩
          · exact ⟨fun _ => False, ds, .list ys, true, fun p h => h.elim, ctrees_0 rl1 (fun p z => z.elim) p1 e, hk, e2, fun v H' kk rt fr => fin _ v H' kk (fr rfl)⟩
        · exact h1.elim
      · exact h1.elim
    · exact h1.elim
  · exact h1.elim
end
section
variable {X : Cx} {e : Expr} {es : List Expr} {pos p : Pos} {tA : TA} {mA : MA}
theorem q_calO {k j n : Nat} {ps : List Str} {m : List PyData → Rp} {x : Str} (C : Cal X.prog X.w X.K X.mg X.base k x ps (spP X.K n m)) (hr : Room j X.A) (hkj : k ≤ j) (ha : QA X (e :: es) tA mA) (hg : Gl X x := by rfl) (hdb : (x == ("__debug__" : Str)) = false := by decide)
    (he : starEach (e :: es) X.env = (false, eval e X.env) :: starEach es X.env := by rfl) (hpl : (backTo pos (starEach es X.env)).any (·.1) = false := by rfl) :
    QE X (.Call (.Name x p) (e :: es) [] pos) (tCall (spP X.K n m) [] E0 tA) (eCallO n m mA) := by
  obtain ⟨f, fd, F, hm, hk, hb⟩ := C.ex
  exact ⟨pe_call F (hr.mono hkj) hg hm hk hb .nil pass0 ha.pa hdb he hpl, fun G hG => hG ▸ s_callO (ha.sim G hG)⟩
end
/-! running it -/
def Rp.ToF (r : Rp) (P : List PyData → Prop) : Prop := match r with
  | .ok (.list ys) true => P ys
  | _ => False
theorem Rp.ToF.to {r : Rp} {P : List PyData → Prop} {Q : PyData → Prop} (h : r.ToF P) (k : ∀ ys, P ys → Q (.list ys)) : r.To Q := by
  unfold Rp.ToF at h
  split at h
  · exact k _ h
  · exact h.elim
theorem Rp.ToF.mono {r : Rp} {P P' : List PyData → Prop} (h : r.ToF P) (k : ∀ ys, P ys → P' ys) : r.ToF P' := by
  unfold Rp.ToF at h ⊢
  split at h
  · exact k _ h
  · exact h.elim
def retO (P : List PyData → Prop) (u : U) (s : Sto) : Prop := match u with
  | .ref i => ∃ xs, s.obs[i]? = some (Ob.lst xs) ∧ P xs
  | _ => False
@[simp] theorem retO_ref {P : List PyData → Prop} {s : Sto} {i : Nat} : retO P (.ref i) s ↔ ∃ xs, s.obs[i]? = some (Ob.lst xs) ∧ P xs := Iff.rfl
theorem outP_toF {o : Out} {P : List PyData → Prop} (h : o.To (fun _ _ => False) (retO P)) : (outP o).ToF P := by
  cases o with
  | rt u s =>
    cases u with
    | ref i =>
      obtain ⟨xs, e, p⟩ := (show ∃ xs, s.obs[i]? = some (Ob.lst xs) ∧ P xs from h)
      show (match s.obs[i]? with | some (.lst xs) => Rp.ok (.list xs) true | _ => .no).ToF P
      rw [e]; exact p
    | _ => exact False.elim h
  | _ => exact False.elim h
theorem pure_toF {n : Nat} {b : MS} {ds : List PyData} {P : List PyData → Prop} (h : (b (startL n (ds.map .d)) ⟨none, []⟩).To (fun _ _ => False) (retO P)) : (pureOf n b ds).ToF P := outP_toF h
section
variable {l : Loc} {st : Sto} {Q : U → Sto → Prop}
@[simp] theorem to_eCallO {k : Nat} {m : List PyData → Rp} {a : MA} : (eCallO k m a l st).To Q ↔ (a l st).To fun us s => (fCallO k m us s).To Q := by unfold eCallO; simp
theorem fCallO_d {k : Nat} {m : List PyData → Rp} {ds : List PyData} (hk : ds.length = k) (h : (m ds).ToF fun ys => noLsts ys = true ∧ Q (.ref st.obs.length) (st.add ys)) : (fCallO k m (ds.map .d) st).To Q := by
  unfold fCallO
  rw [ctrees_d]
  simp only [hk, if_true]
  unfold Rp.ToF at h
  split at h
  · rename_i ys e
    show (if noLsts ys = true then Res.ok (U.ref st.obs.length) (st.add ys) else .no).To Q
    rw [if_pos h.1]; exact h.2
  · exact h.elim
theorem callO_1 {m : List PyData → Rp} {x : PyData} (h : (m [x]).ToF fun ys => noLsts ys = true ∧ Q (.ref st.obs.length) (st.add ys)) : (fCallO 1 m [.d x] st).To Q := fCallO_d (ds := [x]) rfl h
theorem callO_2 {m : List PyData → Rp} {x y : PyData} (h : (m [x, y]).ToF fun ys => noLsts ys = true ∧ Q (.ref st.obs.length) (st.add ys)) : (fCallO 2 m [.d x, .d y] st).To Q := fCallO_d (ds := [x, y]) rfl h
end
/-! tuple(reversed(a list)) -/
def eTupRev (m : ME) : ME := fun l st => (m l st).bind fun u st => match listOf st u with
  | some xs => .ok (.d (.tuple xs.reverse)) st
  | none => .no
theorem s_tupRev {G : Gx} {t : TE} {m : ME} (h : SimE G t m) : SimE G (_root_.RT.tTupRev G.K t) (eTupRev m) := fun β H σ l st re Q q => by
  refine h β H σ l st re _ (wpR_bind q fun v u H1 β1 st1 f1 rl1 p1 h1 => ?_)
  split at h1
  · rename_i xs e
    obtain ⟨p, vs, rfl, s, r⟩ := list_q rl1 p1 e
    refine ⟨p, vs, rfl, s, fun z hz => ?_⟩
    obtain ⟨f4, rl4, rt⟩ := new_tup rl1 hz r.rev
    exact h1 _ _ β1 f4 rl4 rt
  · exact h1.elim
section
variable {l : Loc} {st : Sto} {Q : U → Sto → Prop}
@[simp] theorem to_eTupRev {m : ME} : (eTupRev m l st).To Q ↔ (m l st).To fun u s => ∃ xs, listOf s u = some xs ∧ Q (.d (.tuple xs.reverse)) s := by
  unfold eTupRev
  rw [to_bind]
  refine iff_of_eq (congrArg _ (funext fun u => funext fun s => propext ?_))
  cases listOf s u <;> simp
@[simp] theorem listOf_l {xs ys : List PyData} : listOf st (.d (.list xs)) = some ys ↔ xs = ys := by
  show some xs = some ys ↔ _
  simp
end
theorem q_tupRev {X : Cx} {e : Expr} {te : TE} {me : ME} {p p2 pos pos2 : Pos} (hc : X.calm = true) (hm : X.mg "tuple" = none) (hm2 : X.mg "reversed" = none) (he : QE X e te me) (hg : Gl X "tuple" := by rfl) (hg2 : Gl X "reversed" := by rfl)
    (hs : starEach [e] X.env = (false, eval e X.env) :: starEach [] X.env := by rfl)
    (hs2 : starEach [.Call (.Name "reversed" p2) [e] [] pos2] X.env = (false, eval (.Call (.Name "reversed" p2) [e] [] pos2) X.env) :: starEach [] X.env := by rfl) :
    QE X (.Call (.Name "tuple" p) [.Call (.Name "reversed" p2) [e] [] pos2] [] pos) (_root_.RT.tTupRev X.K te) (eTupRev me) := ⟨_root_.RT.pe_tupRev hc hg hm hg2 hm2 he.pe hs hs2, fun G hG => hG ▸ s_tupRev (he.sim G hG)⟩
end NW

namespace NW
open PySem PySem.Spec PyProof.Rows L2
noncomputable def b_common_part : MS :=
    (sSeq (sWhile (bTest (eOp (opEq true) (eVar 1) (eC (.int 0))))
    (sPar 0 1 (aCons (eVar 1) (aCons (eOp fMod (eVar 0) (eVar 1)) aNil))))
    (sRet (eCB cAbs (aCons (eVar 0) aNil))))
@[irreducible] noncomputable def m_common_part : List PyData → Rp := pureOf 2 b_common_part
noncomputable def b_fraction : MS :=
    (sSeq (sAsg 2 (eCallP 2 m_common_part (aCons (eVar 0) (aCons (eVar 1) aNil))))
    (sSeq (sIf (bTest (eOp fLt (eVar 1) (eC (.int 0))))
    (sAsg 2 (eOp fSub (eC (.int 0)) (eVar 2)))
    sNext)
    (sRet (eTup (aCons (eOp fDiv (eVar 0) (eVar 2)) (aCons (eOp fDiv (eVar 1) (eVar 2)) aNil))))))
@[irreducible] noncomputable def m_fraction : List PyData → Rp := pureOf 3 b_fraction
noncomputable def b_L_flow : MS :=
    (sRet (eOwn (lDisp (aCons (eFrz (lCB cListOf (aCons (eVar 0) aNil))) (aCons (eC (.int 0)) (aCons (eC (.int 0)) (aCons (eC (.int 1)) (aCons (eC (.int 0)) aNil))))))))
noncomputable def b_L_pick : MS :=
    (sSeq (sIf (bAnd (bTest (eOp (opEq false) (eOp fIx (eVar 0) (eC (.int 2))) (eC (.int 0)))) (bTest (eOp fLt (eOp fIx (eVar 0) (eC (.int 1))) (eCB cLen (aCons (eOp fIx (eVar 0) (eC (.int 0))) aNil)))))
    (sSeq (sAsg 2 (eOp fIx (eOp fIx (eVar 0) (eC (.int 0))) (eOp fIx (eVar 0) (eC (.int 1)))))
    (sSeq (sAsgG (eOp fAddA (eOp fIx (eVar 0) (eC (.int 1))) (eC (.int 1))) (gSubM (eVar 0) (eC (.int 1))))
    (sIf (bTest (eOp fGe (eVar 2) (eOp fPow (eC (.int 10)) (eC (.int 18)))))
    (sAsgG (eVar 2) (gSubM (eVar 0) (eC (.int 2))))
    (sAsgG (eOp fMod (eOp fAddA (eOp fAddA (eOp fMulA (eOp fIx (eVar 0) (eC (.int 3))) (eC (.int 40013))) (eOp fMod (eVar 2) (eC (.int 1000003)))) (eC (.int 1))) (eC (.int 2147483647))) (gSubM (eVar 0) (eC (.int 3)))))))
    sNext)
    (sSeq (sIf (bTest (eOp fGt (eOp fIx (eVar 0) (eC (.int 2))) (eC (.int 0))))
    (sSeq (sAsg 3 (eOp fMod (eOp fIx (eVar 0) (eC (.int 2))) (eVar 1)))
    (sSeq (sAsgG (eOp fDiv (eOp fIx (eVar 0) (eC (.int 2))) (eVar 1)) (gSubM (eVar 0) (eC (.int 2))))
    (sRet (eVar 3))))
    sNext)
    (sSeq (sAsgG (eOp fAddA (eOp fIx (eVar 0) (eC (.int 4))) (eC (.int 1))) (gSubM (eVar 0) (eC (.int 4))))
    (sSeq (sAsgG (eOp fMod (eOp fAddA (eOp fAddA (eOp fMulA (eOp fIx (eVar 0) (eC (.int 3))) (eC (.int 48271))) (eC (.int 12820163))) (eOp fIx (eVar 0) (eC (.int 4)))) (eC (.int 2147483647))) (gSubM (eVar 0) (eC (.int 3))))
    (sRet (eOp fMod (eOp fDiv (eOp fMod (eOp fMulA (eOp fAddA (eOp fMod (eOp fIx (eVar 0) (eC (.int 3))) (eC (.int 65521))) (eC (.int 1))) (eOp fAddA (eOp fDiv (eOp fIx (eVar 0) (eC (.int 3))) (eC (.int 65521))) (eC (.int 7919)))) (eC (.int 1000003))) (eC (.int 7))) (eVar 1)))))))
@[irreducible] noncomputable def m_L_pick : List PyData → Fl → Rf := flowOf 4 b_L_pick
noncomputable def b_L_common : MS :=
    (sSeq (sWhile (bTest (eOp (opEq true) (eVar 1) (eC (.int 0))))
    (sPar 0 1 (aCons (eVar 1) (aCons (eOp fMod (eVar 0) (eVar 1)) aNil))))
    (sRet (eCB cAbs (aCons (eVar 0) aNil))))
@[irreducible] noncomputable def m_L_common : List PyData → Rp := pureOf 2 b_L_common
noncomputable def b_L_great : MS :=
    (sSeq (sAsg 2 (eC (.int 0)))
    (sSeq (sFor (mR1 (aCons (eOp fIx (eFrz (lDisp (aCons (eCallF 2 m_L_pick (aCons (eVar 0) (aCons (eC (.int 4)) aNil))) (aCons (eVar 1) (aCons (eCallF 2 m_L_pick (aCons (eVar 0) (aCons (eOp fAddA (eVar 1) (eC (.int 1))) aNil))) aNil))))) (eCallF 2 m_L_pick (aCons (eVar 0) (aCons (eC (.int 3)) aNil)))) aNil)) (gNameM 3)
    (sAsg 2 (eOp fAddA (eOp fMulA (eC (.int 10)) (eVar 2)) (eCallF 2 m_L_pick (aCons (eVar 0) (aCons (eC (.int 10)) aNil))))))
    (sRet (eOp fIx (eFrz (lDisp (aCons (eVar 2) (aCons (eOp fSub (eC (.int 0)) (eVar 2)) aNil)))) (eCallF 2 m_L_pick (aCons (eVar 0) (aCons (eC (.int 2)) aNil)))))))
@[irreducible] noncomputable def m_L_great : List PyData → Fl → Rf := flowOf 4 b_L_great
noncomputable def b_L_right : MS :=
    (sSeq (sAsg 2 (eCallP 2 m_fraction (aCons (eVar 0) (aCons (eVar 1) aNil))))
    (sSeq (sIf (bOr (bNot (bTru (eIsi (eVar 2) "tuple"))) (bTest (eOp (opEq true) (eCB cLen (aCons (eVar 2) aNil)) (eC (.int 2)))))
    (sRet (eC (.bool false)))
    sNext)
    (sSeq (sIf (bNot (bTru (eCB cAll (aCons (eFrz (lLc (mAny (eVar 2)) (([(("_law_one" : Str), 3)] : List (Str × Nat)).map (·.2)) (gNameM 3) bYes (eAndV (eIsi (eVar 3) "int") (eNotV (eIsi (eVar 3) "bool"))))) aNil))))
    (sRet (eC (.bool false)))
    sNext)
    (sRet (eAndV (eOp fGt (eOp fIx (eVar 2) (eC (.int 1))) (eC (.int 0))) (eAndV (eOp (opEq false) (eOp fMulA (eOp fIx (eVar 2) (eC (.int 0))) (eVar 1)) (eOp fMulA (eVar 0) (eOp fIx (eVar 2) (eC (.int 1))))) (eOp (opEq false) (eCallP 2 m_L_common (aCons (eOp fIx (eVar 2) (eC (.int 0))) (aCons (eOp fIx (eVar 2) (eC (.int 1))) aNil))) (eC (.int 1)))))))))
@[irreducible] noncomputable def m_L_right : List PyData → Rp := pureOf 4 b_L_right
noncomputable def b_law_k01 : MS :=
    (sSeq (sAsg 2 (eFrz (lDisp aNil)))
    (sSeq (sFor (mR1 (aCons (eC (.int 3)) aNil)) (gNameM 3)
    (sSeq (sAsg 4 (eCallF 2 m_L_great (aCons (eVar 1) (aCons (eC (.int 20)) aNil))))
    (sSeq (sAsg 4 (eOp fAddA (eVar 4) (eCB cInt (aCons (eOp (opEq false) (eVar 4) (eC (.int 0))) aNil))))
    (sSeq (sAsg 5 (eCallF 2 m_L_great (aCons (eVar 1) (aCons (eC (.int 20)) aNil))))
    (sSeq (sAsg 5 (eOp fAddA (eVar 5) (eCB cInt (aCons (eOp (opEq false) (eVar 5) (eC (.int 0))) aNil))))
    (sSeq (sAsg 6 (eCallF 2 m_L_great (aCons (eVar 1) (aCons (eC (.int 20)) aNil))))
    (sSeq (sAsg 2 (eOp fAddA (eVar 2) (eFrz (lDisp (aCons (eTup (aCons (eVar 6) (aCons (eVar 5) aNil))) (aCons (eTup (aCons (eOp fMulA (eVar 6) (eVar 4)) (aCons (eOp fMulA (eVar 5) (eVar 4)) aNil))) (aCons (eTup (aCons (eOp fSub (eC (.int 0)) (eVar 6)) (aCons (eOp fSub (eC (.int 0)) (eVar 5)) aNil))) (aCons (eTup (aCons (eC (.int 0)) (aCons (eVar 5) aNil))) aNil))))))))
    (sSeq (sIf (bTest (eOp (opEq true) (eCallP 2 m_fraction (aCons (eVar 6) (aCons (eVar 5) aNil))) (eCallP 2 m_fraction (aCons (eOp fMulA (eVar 6) (eVar 4)) (aCons (eOp fMulA (eVar 5) (eVar 4)) aNil)))))
    (sRet (eC (.bool false)))
    sNext)
    (sIf (bTest (eOp (opEq true) (eCallP 2 m_fraction (aCons (eVar 6) (aCons (eVar 5) aNil))) (eCallP 2 m_fraction (aCons (eOp fSub (eC (.int 0)) (eVar 6)) (aCons (eOp fSub (eC (.int 0)) (eVar 5)) aNil)))))
    (sRet (eC (.bool false)))
    sNext)))))))))
    (sRet (eCB cAll (aCons (eFrz (lLc (mAny (eOp fAddA (eVar 2) (eSlAny (eVar 2) oNone (oSome (eC (.int 1)))))) (([(("_law_top" : Str), 6), (("_law_bottom" : Str), 5)] : List (Str × Nat)).map (·.2)) (gTupM 2 (gConsM (gNameM 6) (gConsM (gNameM 5) gNilM))) bYes (eCallP 2 m_L_right (aCons (eVar 6) (aCons (eVar 5) aNil))))) aNil)))))
noncomputable def b_added : MS :=
    (sRet (eCallP 2 m_fraction (aCons (eOp fAddA (eOp fMulA (eOp fIx (eVar 0) (eC (.int 0))) (eOp fIx (eVar 1) (eC (.int 1)))) (eOp fMulA (eOp fIx (eVar 1) (eC (.int 0))) (eOp fIx (eVar 0) (eC (.int 1))))) (aCons (eOp fMulA (eOp fIx (eVar 0) (eC (.int 1))) (eOp fIx (eVar 1) (eC (.int 1)))) aNil))))
@[irreducible] noncomputable def m_added : List PyData → Rp := pureOf 2 b_added
noncomputable def b_taken : MS :=
    (sRet (eCallP 2 m_fraction (aCons (eOp fSub (eOp fMulA (eOp fIx (eVar 0) (eC (.int 0))) (eOp fIx (eVar 1) (eC (.int 1)))) (eOp fMulA (eOp fIx (eVar 1) (eC (.int 0))) (eOp fIx (eVar 0) (eC (.int 1))))) (aCons (eOp fMulA (eOp fIx (eVar 0) (eC (.int 1))) (eOp fIx (eVar 1) (eC (.int 1)))) aNil))))
@[irreducible] noncomputable def m_taken : List PyData → Rp := pureOf 2 b_taken
noncomputable def b_multiplied : MS :=
    (sRet (eCallP 2 m_fraction (aCons (eOp fMulA (eOp fIx (eVar 0) (eC (.int 0))) (eOp fIx (eVar 1) (eC (.int 0)))) (aCons (eOp fMulA (eOp fIx (eVar 0) (eC (.int 1))) (eOp fIx (eVar 1) (eC (.int 1)))) aNil))))
@[irreducible] noncomputable def m_multiplied : List PyData → Rp := pureOf 2 b_multiplied
noncomputable def b_divided : MS :=
    (sRet (eCallP 2 m_fraction (aCons (eOp fMulA (eOp fIx (eVar 0) (eC (.int 0))) (eOp fIx (eVar 1) (eC (.int 1)))) (aCons (eOp fMulA (eOp fIx (eVar 0) (eC (.int 1))) (eOp fIx (eVar 1) (eC (.int 0)))) aNil))))
@[irreducible] noncomputable def m_divided : List PyData → Rp := pureOf 2 b_divided
noncomputable def b_L_alike (mm : List PyData → Rp) : MS :=
    (sSeq (sIf (bTru (eIsiT (eVar 1) ["list", "tuple"]))
    (sSeq (sIf (bTest (eOp (opEq true) (eIsi (eVar 0) "list") (eIsi (eVar 1) "list")))
    (sRet (eC (.bool false)))
    sNext)
    (sSeq (sIf (bTest (eOp (opEq true) (eIsi (eVar 0) "tuple") (eIsi (eVar 1) "tuple")))
    (sRet (eC (.bool false)))
    sNext)
    (sRet (eAndV (eOp (opEq false) (eCB cLen (aCons (eVar 0) aNil)) (eCB cLen (aCons (eVar 1) aNil))) (eCB cAll (aCons (eFrz (lLc (mR1 (aCons (eCB cLen (aCons (eVar 1) aNil)) aNil)) (([(("_law_k" : Str), 2)] : List (Str × Nat)).map (·.2)) (gNameM 2) bYes (eCallP 2 mm (aCons (eOp fIx (eVar 0) (eVar 2)) (aCons (eOp fIx (eVar 1) (eVar 2)) aNil))))) aNil))))))
    sNext)
    (sRet (eAndV (eOp (opEq false) (eIsi (eVar 0) "bool") (eIsi (eVar 1) "bool")) (eOp (opEq false) (eVar 0) (eVar 1)))))
noncomputable def r_L_alike : Nat → List PyData → Rp
  | 0 => fun _ => .no
  | n + 1 => pureOf 3 (b_L_alike (r_L_alike n))
@[irreducible] noncomputable def m_L_alike (n : Nat) : List PyData → Rp := r_L_alike n
theorem z_L_alike : m_L_alike 0 = fun _ => .no := by unfold m_L_alike; rfl
theorem s_L_alike {n : Nat} : m_L_alike (n + 1) = pureOf 3 (b_L_alike (m_L_alike n)) := by unfold m_L_alike; rfl
noncomputable def b_L_fraction : MS :=
    (sSeq (sAsg 2 (eCallP 2 m_L_common (aCons (eVar 0) (aCons (eVar 1) aNil))))
    (sSeq (sIf (bTest (eOp fLt (eVar 1) (eC (.int 0))))
    (sAsg 2 (eOp fSub (eC (.int 0)) (eVar 2)))
    sNext)
    (sRet (eTup (aCons (eOp fDiv (eVar 0) (eVar 2)) (aCons (eOp fDiv (eVar 1) (eVar 2)) aNil))))))
@[irreducible] noncomputable def m_L_fraction : List PyData → Rp := pureOf 3 b_L_fraction
noncomputable def b_L_great_fraction : MS :=
    (sSeq (sAsg 2 (eCallF 2 m_L_great (aCons (eVar 0) (aCons (eVar 1) aNil))))
    (sRet (eCallP 2 m_L_fraction (aCons (eCallF 2 m_L_great (aCons (eVar 0) (aCons (eVar 1) aNil))) (aCons (eOp fAddA (eVar 2) (eCB cInt (aCons (eOp (opEq false) (eVar 2) (eC (.int 0))) aNil))) aNil)))))
@[irreducible] noncomputable def m_L_great_fraction : List PyData → Fl → Rf := flowOf 3 b_L_great_fraction
noncomputable def b_L_right_2 : MS :=
    (sSeq (sAsg 2 (eOp fMulA (eOp fIx (eVar 0) (eC (.int 0))) (eOp fIx (eVar 1) (eC (.int 1)))))
    (sSeq (sAsg 3 (eOp fMulA (eOp fIx (eVar 1) (eC (.int 0))) (eOp fIx (eVar 0) (eC (.int 1)))))
    (sSeq (sAsg 4 (eOp fMulA (eOp fIx (eVar 0) (eC (.int 1))) (eOp fIx (eVar 1) (eC (.int 1)))))
    (sSeq (sIf (bNot (bTru (eCallP 2 (m_L_alike 8) (aCons (eCallP 2 m_added (aCons (eVar 0) (aCons (eVar 1) aNil))) (aCons (eCallP 2 m_L_fraction (aCons (eOp fAddA (eVar 2) (eVar 3)) (aCons (eVar 4) aNil))) aNil)))))
    (sRet (eC (.bool false)))
    sNext)
    (sSeq (sIf (bNot (bTru (eCallP 2 (m_L_alike 8) (aCons (eCallP 2 m_taken (aCons (eVar 0) (aCons (eVar 1) aNil))) (aCons (eCallP 2 m_L_fraction (aCons (eOp fSub (eVar 2) (eVar 3)) (aCons (eVar 4) aNil))) aNil)))))
    (sRet (eC (.bool false)))
    sNext)
    (sSeq (sIf (bNot (bTru (eCallP 2 (m_L_alike 8) (aCons (eCallP 2 m_multiplied (aCons (eVar 0) (aCons (eVar 1) aNil))) (aCons (eCallP 2 m_L_fraction (aCons (eOp fMulA (eOp fIx (eVar 0) (eC (.int 0))) (eOp fIx (eVar 1) (eC (.int 0)))) (aCons (eVar 4) aNil))) aNil)))))
    (sRet (eC (.bool false)))
    sNext)
    (sSeq (sIf (bTest (eOp (opEq true) (eOp fIx (eVar 1) (eC (.int 0))) (eC (.int 0))))
    (sSeq (sAsg 5 (eCallP 2 m_divided (aCons (eVar 0) (aCons (eVar 1) aNil))))
    (sIf (bOr (bNot (bTru (eCallP 2 (m_L_alike 8) (aCons (eVar 5) (aCons (eCallP 2 m_L_fraction (aCons (eVar 2) (aCons (eVar 3) aNil))) aNil))))) (bTest (eOp (opEq true) (eCallP 2 m_multiplied (aCons (eVar 5) (aCons (eVar 1) aNil))) (eVar 0))))
    (sRet (eC (.bool false)))
    sNext))
    sNext)
    (sRet (eOp (opEq false) (eCallP 2 m_added (aCons (eCallP 2 m_taken (aCons (eVar 0) (aCons (eVar 1) aNil))) (aCons (eVar 1) aNil))) (eVar 0))))))))))
@[irreducible] noncomputable def m_L_right_2 : List PyData → Rp := pureOf 6 b_L_right_2
noncomputable def b_law_k02 : MS :=
    (sSeq (sAsg 2 (if false = true then eFrz (lLc (mR1 (aCons (eC (.int 3)) aNil)) (([(("_law_k" : Str), 4)] : List (Str × Nat)).map (·.2)) (gNameM 4) bYes (eCallF 2 m_L_great_fraction (aCons (eVar 1) (aCons (eOp fIx (eFrz (lDisp (aCons (eC (.int 3)) (aCons (eC (.int 40)) aNil)))) (eCallF 2 m_L_pick (aCons (eVar 1) (aCons (eC (.int 2)) aNil)))) aNil)))) else eOwn (lLc (mR1 (aCons (eC (.int 3)) aNil)) (([(("_law_k" : Str), 4)] : List (Str × Nat)).map (·.2)) (gNameM 4) bYes (eCallF 2 m_L_great_fraction (aCons (eVar 1) (aCons (eOp fIx (eFrz (lDisp (aCons (eC (.int 3)) (aCons (eC (.int 40)) aNil)))) (eCallF 2 m_L_pick (aCons (eVar 1) (aCons (eC (.int 2)) aNil)))) aNil))))))
    (sSeq (sDrop (eMethL mAppend (eVar 2) (aCons (eOp fIx (eFrz (lDisp (aCons (eOp fIx (eVar 2) (eC (.int 0))) (aCons (eTup (aCons (eOp fSub (eC (.int 0)) (eOp fIx (eOp fIx (eVar 2) (eC (.int 0))) (eC (.int 0)))) (aCons (eOp fIx (eOp fIx (eVar 2) (eC (.int 0))) (eC (.int 1))) aNil))) (aCons (eTup (aCons (eC (.int 0)) (aCons (eC (.int 1)) aNil))) (aCons (eTup (aCons (eC (.int 1)) (aCons (eC (.int 1)) aNil))) aNil)))))) (eCallF 2 m_L_pick (aCons (eVar 1) (aCons (eC (.int 4)) aNil)))) aNil)))
    (sSeq (sFor (mAny (eVar 2)) (gNameM 3)
    (sIf (bNot (bTru (eCB cAll (aCons (eFrz (lLc (mAny (eVar 2)) (([(("_law_other" : Str), 5)] : List (Str × Nat)).map (·.2)) (gNameM 5) bYes (eCallP 2 m_L_right_2 (aCons (eVar 3) (aCons (eVar 5) aNil))))) aNil))))
    (sRet (eC (.bool false)))
    sNext))
    (sRet (eCallP 2 m_L_right_2 (aCons (eOp fIx (eVar 2) (eC (.int 0))) (aCons (eOp fIx (eVar 2) (eC (.int 1))) aNil)))))))
noncomputable def b_over : MS :=
    (sSeq (sAsg 2 (eCB cLen (aCons (eVar 0) aNil)))
    (sSeq (sWhile (bAnd (bTest (eOp fGt (eVar 2) (eC (.int 0)))) (bTest (eOp (opEq false) (eOp fIx (eVar 0) (eOp fSub (eVar 2) (eC (.int 1)))) (eC (.int 0)))))
    (sAsg 2 (eOp fSub (eVar 2) (eC (.int 1)))))
    (sSeq (sAsg 3 (eVar 1))
    (sSeq (sFor (mAny (eSlAny (eVar 0) oNone (oSome (eVar 2)))) (gNameM 4)
    (sAsg 3 (eCallP 2 m_common_part (aCons (eVar 3) (aCons (eVar 4) aNil)))))
    (sRet (eTup (aCons (eCB cTupOf (aCons (eFrz (lLc (mAny (eSlAny (eVar 0) oNone (oSome (eVar 2)))) (([(("top" : Str), 4)] : List (Str × Nat)).map (·.2)) (gNameM 4) bYes (eOp fDiv (eVar 4) (eVar 3)))) aNil)) (aCons (eOp fDiv (eVar 1) (eVar 3)) aNil))))))))
@[irreducible] noncomputable def m_over : List PyData → Rp := pureOf 5 b_over
noncomputable def b_poly : MS :=
    (sSeq (sAsg 1 (eC (.int 1)))
    (sSeq (sFor (mAny (eVar 0)) (gTupM 2 (gConsM (gNameM 2) (gConsM (gNameM 3) gNilM)))
    (sAsg 1 (eOp fDiv (eOp fMulA (eVar 1) (eVar 3)) (eCallP 2 m_common_part (aCons (eVar 1) (aCons (eVar 3) aNil))))))
    (sRet (eCallP 2 m_over (aCons (eFrz (lLc (mAny (eVar 0)) (([(("top" : Str), 2), (("own" : Str), 3)] : List (Str × Nat)).map (·.2)) (gTupM 2 (gConsM (gNameM 2) (gConsM (gNameM 3) gNilM))) bYes (eOp fMulA (eVar 2) (eOp fDiv (eVar 1) (eVar 3))))) (aCons (eVar 1) aNil))))))
@[irreducible] noncomputable def m_poly : List PyData → Rp := pureOf 4 b_poly
noncomputable def b_fraction_at : MS :=
    (sSeq (sIf (bTest (eOp fGe (eVar 1) (eCB cLen (aCons (eOp fIx (eVar 0) (eC (.int 0))) aNil))))
    (sRet (eTup (aCons (eC (.int 0)) (aCons (eC (.int 1)) aNil))))
    sNext)
    (sRet (eCallP 2 m_fraction (aCons (eOp fIx (eOp fIx (eVar 0) (eC (.int 0))) (eVar 1)) (aCons (eOp fIx (eVar 0) (eC (.int 1))) aNil)))))
@[irreducible] noncomputable def m_fraction_at : List PyData → Rp := pureOf 2 b_fraction_at
noncomputable def b_degree : MS :=
    (sRet (eOp fSub (eCB cLen (aCons (eOp fIx (eVar 0) (eC (.int 0))) aNil)) (eC (.int 1))))
@[irreducible] noncomputable def m_degree : List PyData → Rp := pureOf 1 b_degree
noncomputable def b_lead : MS :=
    (sSeq (sIf (bTest (eOp (opEq false) (eCB cLen (aCons (eOp fIx (eVar 0) (eC (.int 0))) aNil)) (eC (.int 0))))
    (sRet (eTup (aCons (eC (.int 0)) (aCons (eC (.int 1)) aNil))))
    sNext)
    (sRet (eCallP 2 m_fraction_at (aCons (eVar 0) (aCons (eCallP 1 m_degree (aCons (eVar 0) aNil)) aNil)))))
@[irreducible] noncomputable def m_lead : List PyData → Rp := pureOf 1 b_lead
noncomputable def b_L_is_form : MS :=
    (sSeq (sIf (bOr (bNot (bTru (eIsi (eVar 0) "tuple"))) (bOr (bTest (eOp (opEq true) (eCB cLen (aCons (eVar 0) aNil)) (eC (.int 2)))) (bNot (bTru (eIsi (eOp fIx (eVar 0) (eC (.int 0))) "tuple")))))
    (sRet (eC (.bool false)))
    sNext)
    (sSeq (sIf (bNot (bTru (eCB cAll (aCons (eFrz (lLc (mAny (eOp fAddA (eOp fIx (eVar 0) (eC (.int 0))) (eTup (aCons (eOp fIx (eVar 0) (eC (.int 1))) aNil)))) (([(("_law_one" : Str), 3)] : List (Str × Nat)).map (·.2)) (gNameM 3) bYes (eAndV (eIsi (eVar 3) "int") (eNotV (eIsi (eVar 3) "bool"))))) aNil))))
    (sRet (eC (.bool false)))
    sNext)
    (sSeq (sAsg 1 (eOp fIx (eVar 0) (eC (.int 1))))
    (sSeq (sFor (mAny (eOp fIx (eVar 0) (eC (.int 0)))) (gNameM 2)
    (sAsg 1 (eCallP 2 m_L_common (aCons (eVar 1) (aCons (eVar 2) aNil)))))
    (sRet (eAndV (eOp fGt (eOp fIx (eVar 0) (eC (.int 1))) (eC (.int 0))) (eAndV (eOp (opEq false) (eVar 1) (eC (.int 1))) (eOrV (eOp (opEq false) (eCB cLen (aCons (eOp fIx (eVar 0) (eC (.int 0))) aNil)) (eC (.int 0))) (eOp (opEq true) (eOp fIx (eOp fIx (eVar 0) (eC (.int 0))) (eC (.int (-1)))) (eC (.int 0)))))))))))
@[irreducible] noncomputable def m_L_is_form : List PyData → Rp := pureOf 4 b_L_is_form
noncomputable def b_L_right_3 : MS :=
    (sSeq (sAsg 1 (eCallP 1 m_poly (aCons (eVar 0) aNil)))
    (sSeq (sIf (bOr (bNot (bTru (eCallP 1 m_L_is_form (aCons (eVar 1) aNil)))) (bTest (eOp (opEq true) (eCallP 1 m_poly (aCons (eCB cTupOf (aCons (eVar 0) aNil)) aNil)) (eVar 1))))
    (sRet (eC (.bool false)))
    sNext)
    (sSeq (sAsg 2 (eCB cMaxL (aCons (eOp fAddA (eFrz (lDisp (aCons (eC (.int 0)) aNil))) (eFrz (lLc (mR1 (aCons (eCB cLen (aCons (eVar 0) aNil)) aNil)) (([(("_law_k" : Str), 3)] : List (Str × Nat)).map (·.2)) (gNameM 3) (bTest (eOp (opEq true) (eOp fIx (eOp fIx (eVar 0) (eVar 3)) (eC (.int 0))) (eC (.int 0)))) (eOp fAddA (eVar 3) (eC (.int 1)))))) aNil)))
    (sSeq (sIf (bNot (bTru (eCallP 2 (m_L_alike 8) (aCons (eCallP 1 m_degree (aCons (eVar 1) aNil)) (aCons (eOp fSub (eVar 2) (eC (.int 1))) aNil)))))
    (sRet (eC (.bool false)))
    sNext)
    (sSeq (sFor (mR1 (aCons (eC (.int 15)) aNil)) (gNameM 3)
    (sSeq (sAsg 4 (eTup (aCons (eC (.int 0)) (aCons (eC (.int 1)) aNil))))
    (sSeq (sIf (bTest (eOp fLt (eVar 3) (eCB cLen (aCons (eVar 0) aNil))))
    (sAsg 4 (eOp fIx (eVar 0) (eVar 3)))
    sNext)
    (sIf (bNot (bTru (eCallP 2 (m_L_alike 8) (aCons (eCallP 2 m_fraction_at (aCons (eVar 1) (aCons (eVar 3) aNil))) (aCons (eVar 4) aNil)))))
    (sRet (eC (.bool false)))
    sNext))))
    (sRet (eCallP 2 (m_L_alike 8) (aCons (eCallP 1 m_lead (aCons (eVar 1) aNil)) (aCons (eOp fIx (eOp fAddA (eFrz (lDisp (aCons (eTup (aCons (eC (.int 0)) (aCons (eC (.int 1)) aNil))) aNil))) (eFrz (lCB cListOf (aCons (eVar 0) aNil)))) (eVar 2)) aNil)))))))))
@[irreducible] noncomputable def m_L_right_3 : List PyData → Rp := pureOf 5 b_L_right_3
noncomputable def b_law_k03 : MS :=
    (sSeq (sAsg 2 (eOwn (lDisp aNil)))
    (sSeq (sFor (mR1 (aCons (eC (.int 2)) aNil)) (gNameM 3)
    (sSeq (sAsg 4 (eOp fIx (eFrz (lDisp (aCons (eC (.int 1)) (aCons (eC (.int 3)) (aCons (eC (.int 40)) aNil))))) (eCallF 2 m_L_pick (aCons (eVar 1) (aCons (eC (.int 3)) aNil)))))
    (sSeq (sAsg 5 (eOp fIx (eFrz (lDisp (aCons (eCallF 2 m_L_pick (aCons (eVar 1) (aCons (eC (.int 5)) aNil))) (aCons (eCallF 2 m_L_pick (aCons (eVar 1) (aCons (eC (.int 14)) aNil))) aNil)))) (eCallF 2 m_L_pick (aCons (eVar 1) (aCons (eC (.int 2)) aNil)))))
    (sSeq (sAsg 6 (if false = true then eFrz (lLc (mR1 (aCons (eVar 5) aNil)) (([(("_law_j" : Str), 7)] : List (Str × Nat)).map (·.2)) (gNameM 7) bYes (eCallF 2 m_L_great_fraction (aCons (eVar 1) (aCons (eVar 4) aNil)))) else eOwn (lLc (mR1 (aCons (eVar 5) aNil)) (([(("_law_j" : Str), 7)] : List (Str × Nat)).map (·.2)) (gNameM 7) bYes (eCallF 2 m_L_great_fraction (aCons (eVar 1) (aCons (eVar 4) aNil))))))
    (sSeq (sFor (mR1 (aCons (eVar 5) aNil)) (gNameM 7)
    (sIf (bTest (eOp (opEq false) (eCallF 2 m_L_pick (aCons (eVar 1) (aCons (eC (.int 4)) aNil))) (eC (.int 0))))
    (sAsgG (eTup (aCons (eC (.int 0)) (aCons (eC (.int 1)) aNil))) (gSubM (eVar 6) (eVar 7)))
    sNext))
    (sDrop (eMethL mAppend (eVar 2) (aCons (eDie (eVar 6)) aNil))))))))
    (sSeq (sAsg 8 (if true = true then eFrz (lLc (mAny (eVar 2)) (([(("_law_some" : Str), 6)] : List (Str × Nat)).map (·.2)) (gNameM 6) bYes (eFrz (lCB cListOf (aCons (eVar 6) aNil)))) else eOwn (lLc (mAny (eVar 2)) (([(("_law_some" : Str), 6)] : List (Str × Nat)).map (·.2)) (gNameM 6) bYes (eFrz (lCB cListOf (aCons (eVar 6) aNil))))))
    (sSeq (sFor (mAny (eOp fAddA (eVar 2) (eSlAny (eVar 2) oNone (oSome (eC (.int 1)))))) (gNameM 6)
    (sIf (bOr (bNot (bTru (eCallP 1 m_L_right_3 (aCons (eVar 6) aNil)))) (bTest (eOp (opEq true) (eCallP 1 m_poly (aCons (eOp fAddA (eSlAny (eVar 6) oNone (oSome (eC (.int 12)))) (eFrz (lDisp (aCons (eTup (aCons (eC (.int 0)) (aCons (eC (.int 1)) aNil))) aNil)))) aNil)) (eCallP 1 m_poly (aCons (eSlAny (eVar 6) oNone (oSome (eC (.int 12)))) aNil)))))
    (sRet (eC (.bool false)))
    sNext))
    (sRet (eAndV (eOp (opEq false) (eVar 2) (eVar 8)) (eOp (opEq false) (eCallP 1 m_poly (aCons (eFrz (lDisp aNil)) aNil)) (eTup (aCons (eTup aNil) (aCons (eC (.int 1)) aNil))))))))))
noncomputable def b_plus : MS :=
    (sSeq (sAsg 2 (eOwn (lOp fRep (eFrz (lDisp (aCons (eC (.int 0)) aNil))) (eCB cMax2 (aCons (eCB cLen (aCons (eOp fIx (eVar 0) (eC (.int 0))) aNil)) (aCons (eCB cLen (aCons (eOp fIx (eVar 1) (eC (.int 0))) aNil)) aNil))))))
    (sSeq (sFor (mEnum (aCons (eOp fIx (eVar 0) (eC (.int 0))) aNil)) (gTupM 2 (gConsM (gNameM 3) (gConsM (gNameM 4) gNilM)))
    (sAsgG (eOp fMulA (eVar 4) (eOp fIx (eVar 1) (eC (.int 1)))) (gSubM (eVar 2) (eVar 3))))
    (sSeq (sFor (mEnum (aCons (eOp fIx (eVar 1) (eC (.int 0))) aNil)) (gTupM 2 (gConsM (gNameM 3) (gConsM (gNameM 4) gNilM)))
    (sAsgG (eOp fAddA (eOp fIx (eVar 2) (eVar 3)) (eOp fMulA (eVar 4) (eOp fIx (eVar 0) (eC (.int 1))))) (gSubM (eVar 2) (eVar 3))))
    (sRet (eCallP 2 m_over (aCons (eVar 2) (aCons (eOp fMulA (eOp fIx (eVar 0) (eC (.int 1))) (eOp fIx (eVar 1) (eC (.int 1)))) aNil)))))))
@[irreducible] noncomputable def m_plus : List PyData → Rp := pureOf 5 b_plus
noncomputable def b_scaled : MS :=
    (sRet (eCallP 2 m_over (aCons (eFrz (lLc (mAny (eOp fIx (eVar 0) (eC (.int 0)))) (([(("top" : Str), 2)] : List (Str × Nat)).map (·.2)) (gNameM 2) bYes (eOp fMulA (eVar 2) (eOp fIx (eVar 1) (eC (.int 0)))))) (aCons (eOp fMulA (eOp fIx (eVar 0) (eC (.int 1))) (eOp fIx (eVar 1) (eC (.int 1)))) aNil))))
@[irreducible] noncomputable def m_scaled : List PyData → Rp := pureOf 3 b_scaled
noncomputable def b_minus : MS :=
    (sRet (eCallP 2 m_plus (aCons (eVar 0) (aCons (eCallP 2 m_scaled (aCons (eVar 1) (aCons (eTup (aCons (eC (.int (-1))) (aCons (eC (.int 1)) aNil))) aNil))) aNil))))
@[irreducible] noncomputable def m_minus : List PyData → Rp := pureOf 2 b_minus
noncomputable def b_L_poly : MS :=
    (sSeq (sAsg 0 (eOwn (lCB cListOf (aCons (eVar 0) aNil))))
    (sSeq (sWhile (bAnd (bTest (eOp fGt (eCB cLen (aCons (eVar 0) aNil)) (eC (.int 0)))) (bTest (eOp (opEq false) (eOp fIx (eVar 0) (eC (.int (-1)))) (eC (.int 0)))))
    (sDrop (eMethL mPop (eVar 0) aNil)))
    (sSeq (sAsg 2 (eVar 1))
    (sSeq (sFor (mAny (eVar 0)) (gNameM 3)
    (sAsg 2 (eCallP 2 m_L_common (aCons (eVar 2) (aCons (eVar 3) aNil)))))
    (sRet (eTup (aCons (eCB cTupOf (aCons (eFrz (lLc (mAny (eVar 0)) (([(("_law_top" : Str), 3)] : List (Str × Nat)).map (·.2)) (gNameM 3) bYes (eOp fDiv (eVar 3) (eVar 2)))) aNil)) (aCons (eOp fDiv (eVar 1) (eVar 2)) aNil))))))))
@[irreducible] noncomputable def m_L_poly : List PyData → Rp := pureOf 4 b_L_poly
noncomputable def b_L_great_poly : MS :=
    (sSeq (sAsg 3 (eOp fIx (eFrz (lDisp (aCons (eCallF 2 m_L_pick (aCons (eVar 0) (aCons (eC (.int 4)) aNil))) (aCons (eCallF 2 m_L_pick (aCons (eVar 0) (aCons (eOp fAddA (eVar 1) (eC (.int 2))) aNil))) aNil)))) (eCallF 2 m_L_pick (aCons (eVar 0) (aCons (eC (.int 2)) aNil)))))
    (sSeq (sAsg 4 (eCB cAbs (aCons (eCallF 2 m_L_great (aCons (eVar 0) (aCons (eOp fIx (eFrz (lDisp (aCons (eC (.int 1)) (aCons (eVar 2) aNil)))) (eCallF 2 m_L_pick (aCons (eVar 0) (aCons (eC (.int 2)) aNil)))) aNil))) aNil)))
    (sSeq (sAsg 5 (if true = true then eFrz (lLc (mR1 (aCons (eVar 3) aNil)) (([(("_law_k" : Str), 6)] : List (Str × Nat)).map (·.2)) (gNameM 6) bYes (eCallF 2 m_L_great (aCons (eVar 0) (aCons (eOp fIx (eFrz (lDisp (aCons (eC (.int 2)) (aCons (eVar 2) aNil)))) (eCallF 2 m_L_pick (aCons (eVar 0) (aCons (eC (.int 2)) aNil)))) aNil)))) else eOwn (lLc (mR1 (aCons (eVar 3) aNil)) (([(("_law_k" : Str), 6)] : List (Str × Nat)).map (·.2)) (gNameM 6) bYes (eCallF 2 m_L_great (aCons (eVar 0) (aCons (eOp fIx (eFrz (lDisp (aCons (eC (.int 2)) (aCons (eVar 2) aNil)))) (eCallF 2 m_L_pick (aCons (eVar 0) (aCons (eC (.int 2)) aNil)))) aNil))))))
    (sRet (eCallP 2 m_L_poly (aCons (eVar 5) (aCons (eOp fAddA (eVar 4) (eCB cInt (aCons (eOp (opEq false) (eVar 4) (eC (.int 0))) aNil))) aNil)))))))
@[irreducible] noncomputable def m_L_great_poly : List PyData → Fl → Rf := flowOf 7 b_L_great_poly
noncomputable def b_L_at : MS :=
    (sSeq (sIf (bTest (eOp fLt (eVar 1) (eCB cLen (aCons (eOp fIx (eVar 0) (eC (.int 0))) aNil))))
    (sRet (eTup (aCons (eOp fIx (eOp fIx (eVar 0) (eC (.int 0))) (eVar 1)) (aCons (eOp fIx (eVar 0) (eC (.int 1))) aNil))))
    sNext)
    (sRet (eTup (aCons (eC (.int 0)) (aCons (eC (.int 1)) aNil)))))
@[irreducible] noncomputable def m_L_at : List PyData → Rp := pureOf 2 b_L_at
noncomputable def b_L_by_powers : MS :=
    (sSeq (sAsg 3 (eOwn (lDisp aNil)))
    (sSeq (sFor (mR1 (aCons (eC (.int 13)) aNil)) (gNameM 4)
    (sSeq (sPar 5 6 (aCons (eCallP 2 m_L_at (aCons (eVar 0) (aCons (eVar 4) aNil))) (aCons (eCallP 2 m_L_at (aCons (eVar 1) (aCons (eVar 4) aNil))) aNil)))
    (sSeq (sAsg 7 (eOp fAddA (eOp fMulA (eOp fIx (eVar 5) (eC (.int 0))) (eOp fIx (eVar 6) (eC (.int 1)))) (eOp fMulA (eOp fMulA (eVar 2) (eOp fIx (eVar 6) (eC (.int 0)))) (eOp fIx (eVar 5) (eC (.int 1))))))
    (sDrop (eMethL mAppend (eVar 3) (aCons (eOp fMulA (eVar 7) (eOp fDiv (eOp fMulA (eOp fIx (eVar 0) (eC (.int 1))) (eOp fIx (eVar 1) (eC (.int 1)))) (eOp fMulA (eOp fIx (eVar 5) (eC (.int 1))) (eOp fIx (eVar 6) (eC (.int 1)))))) aNil))))))
    (sRet (eCallP 2 m_L_poly (aCons (eVar 3) (aCons (eOp fMulA (eOp fIx (eVar 0) (eC (.int 1))) (eOp fIx (eVar 1) (eC (.int 1)))) aNil))))))
@[irreducible] noncomputable def m_L_by_powers : List PyData → Rp := pureOf 8 b_L_by_powers
noncomputable def b_L_right_4 : MS :=
    (sSeq (sIf (bNot (bTru (eCallP 2 (m_L_alike 8) (aCons (eCallP 2 m_plus (aCons (eVar 0) (aCons (eVar 1) aNil))) (aCons (eCallP 3 m_L_by_powers (aCons (eVar 0) (aCons (eVar 1) (aCons (eC (.int 1)) aNil)))) aNil)))))
    (sRet (eC (.bool false)))
    sNext)
    (sSeq (sIf (bNot (bTru (eCallP 2 (m_L_alike 8) (aCons (eCallP 2 m_minus (aCons (eVar 0) (aCons (eVar 1) aNil))) (aCons (eCallP 3 m_L_by_powers (aCons (eVar 0) (aCons (eVar 1) (aCons (eOp fSub (eC (.int 0)) (eC (.int 1))) aNil)))) aNil)))))
    (sRet (eC (.bool false)))
    sNext)
    (sSeq (sIf (bNot (bTru (eCallP 2 (m_L_alike 8) (aCons (eCallP 2 m_scaled (aCons (eVar 0) (aCons (eVar 2) aNil))) (aCons (eCallP 2 m_L_poly (aCons (eFrz (lLc (mAny (eOp fIx (eVar 0) (eC (.int 0)))) (([(("_law_top" : Str), 3)] : List (Str × Nat)).map (·.2)) (gNameM 3) bYes (eOp fMulA (eVar 3) (eOp fIx (eVar 2) (eC (.int 0)))))) (aCons (eOp fMulA (eOp fIx (eVar 0) (eC (.int 1))) (eOp fIx (eVar 2) (eC (.int 1)))) aNil))) aNil)))))
    (sRet (eC (.bool false)))
    sNext)
    (sRet (eAndV (eOp (opEq false) (eCallP 2 m_plus (aCons (eCallP 2 m_minus (aCons (eVar 0) (aCons (eVar 1) aNil))) (aCons (eVar 1) aNil))) (eVar 0)) (eOp (opEq false) (eCallP 2 m_plus (aCons (eVar 0) (aCons (eVar 1) aNil))) (eCallP 2 m_plus (aCons (eVar 1) (aCons (eVar 0) aNil)))))))))
@[irreducible] noncomputable def m_L_right_4 : List PyData → Rp := pureOf 4 b_L_right_4
noncomputable def b_law_k04 : MS :=
    (sSeq (sAsg 2 (eCallF 3 m_L_great_poly (aCons (eVar 1) (aCons (eC (.int 12)) (aCons (eOp fIx (eFrz (lDisp (aCons (eC (.int 3)) (aCons (eC (.int 40)) aNil)))) (eCallF 2 m_L_pick (aCons (eVar 1) (aCons (eC (.int 2)) aNil)))) aNil)))))
    (sSeq (sAsg 3 (eCallF 3 m_L_great_poly (aCons (eVar 1) (aCons (eC (.int 12)) (aCons (eOp fIx (eFrz (lDisp (aCons (eC (.int 3)) (aCons (eC (.int 40)) aNil)))) (eCallF 2 m_L_pick (aCons (eVar 1) (aCons (eC (.int 2)) aNil)))) aNil)))))
    (sSeq (sAsg 3 (eOp fIx (eFrz (lDisp (aCons (eVar 3) (aCons (eVar 3) (aCons (eVar 2) (aCons (eCallP 2 m_L_poly (aCons (eSlAny (eOp fIx (eVar 2) (eC (.int 0))) oNone (oSome (eC (.int (-1))))) (aCons (eOp fIx (eVar 2) (eC (.int 1))) aNil))) aNil)))))) (eCallF 2 m_L_pick (aCons (eVar 1) (aCons (eC (.int 4)) aNil)))))
    (sSeq (sAsg 4 (eCallF 2 m_L_great_fraction (aCons (eVar 1) (aCons (eOp fIx (eFrz (lDisp (aCons (eC (.int 2)) (aCons (eC (.int 40)) aNil)))) (eCallF 2 m_L_pick (aCons (eVar 1) (aCons (eC (.int 2)) aNil)))) aNil))))
    (sSeq (sFor (mAny (eFrz (lDisp (aCons (eTup (aCons (eVar 2) (aCons (eVar 3) aNil))) (aCons (eTup (aCons (eVar 3) (aCons (eVar 2) aNil))) (aCons (eTup (aCons (eVar 2) (aCons (eVar 2) aNil))) (aCons (eTup (aCons (eVar 2) (aCons (eTup (aCons (eTup aNil) (aCons (eC (.int 1)) aNil))) aNil))) (aCons (eTup (aCons (eVar 2) (aCons (eVar 3) aNil))) aNil)))))))) (gTupM 2 (gConsM (gNameM 5) (gConsM (gNameM 6) gNilM)))
    (sIf (bNot (bTru (eCallP 3 m_L_right_4 (aCons (eVar 5) (aCons (eVar 6) (aCons (eVar 4) aNil))))))
    (sRet (eC (.bool false)))
    sNext))
    (sRet (eCallP 2 (m_L_alike 8) (aCons (eCallP 2 m_scaled (aCons (eVar 2) (aCons (eTup (aCons (eC (.int 0)) (aCons (eC (.int 1)) aNil))) aNil))) (aCons (eTup (aCons (eTup aNil) (aCons (eC (.int 1)) aNil))) aNil)))))))))
noncomputable def b_times : MS :=
    (sSeq (sAsg 2 (eOwn (lOp fRep (eFrz (lDisp (aCons (eC (.int 0)) aNil))) (eOp fAddA (eCB cLen (aCons (eOp fIx (eVar 0) (eC (.int 0))) aNil)) (eCB cLen (aCons (eOp fIx (eVar 1) (eC (.int 0))) aNil))))))
    (sSeq (sFor (mEnum (aCons (eOp fIx (eVar 0) (eC (.int 0))) aNil)) (gTupM 2 (gConsM (gNameM 3) (gConsM (gNameM 4) gNilM)))
    (sFor (mEnum (aCons (eOp fIx (eVar 1) (eC (.int 0))) aNil)) (gTupM 2 (gConsM (gNameM 5) (gConsM (gNameM 6) gNilM)))
    (sAsgG (eOp fAddA (eOp fIx (eVar 2) (eOp fAddA (eVar 3) (eVar 5))) (eOp fMulA (eVar 4) (eVar 6))) (gSubM (eVar 2) (eOp fAddA (eVar 3) (eVar 5))))))
    (sRet (eCallP 2 m_over (aCons (eVar 2) (aCons (eOp fMulA (eOp fIx (eVar 0) (eC (.int 1))) (eOp fIx (eVar 1) (eC (.int 1)))) aNil))))))
@[irreducible] noncomputable def m_times : List PyData → Rp := pureOf 7 b_times
def c_ONE : PyData := .tuple [.tuple [.int 1], .int 1]
noncomputable def b_power : MS :=
    (sSeq (sAsg 2 (eC c_ONE))
    (sSeq (sFor (mR1 (aCons (eVar 1) aNil)) (gNameM 3)
    (sAsg 2 (eCallP 2 m_times (aCons (eVar 2) (aCons (eVar 0) aNil)))))
    (sRet (eVar 2))))
@[irreducible] noncomputable def m_power : List PyData → Rp := pureOf 4 b_power
noncomputable def b_L_by_sums : MS :=
    (sSeq (sAsg 2 (eOwn (lDisp aNil)))
    (sSeq (sFor (mR1 (aCons (eC (.int 25)) aNil)) (gNameM 3)
    (sSeq (sAsg 4 (eC (.int 0)))
    (sSeq (sFor (mR1 (aCons (eOp fAddA (eVar 3) (eC (.int 1))) aNil)) (gNameM 5)
    (sIf (bAnd (bTest (eOp fLt (eVar 5) (eCB cLen (aCons (eOp fIx (eVar 0) (eC (.int 0))) aNil)))) (bTest (eOp fLt (eOp fSub (eVar 3) (eVar 5)) (eCB cLen (aCons (eOp fIx (eVar 1) (eC (.int 0))) aNil)))))
    (sAsg 4 (eOp fAddA (eVar 4) (eOp fMulA (eOp fIx (eOp fIx (eVar 0) (eC (.int 0))) (eVar 5)) (eOp fIx (eOp fIx (eVar 1) (eC (.int 0))) (eOp fSub (eVar 3) (eVar 5))))))
    sNext))
    (sDrop (eMethL mAppend (eVar 2) (aCons (eVar 4) aNil))))))
    (sRet (eCallP 2 m_L_poly (aCons (eVar 2) (aCons (eOp fMulA (eOp fIx (eVar 0) (eC (.int 1))) (eOp fIx (eVar 1) (eC (.int 1)))) aNil))))))
@[irreducible] noncomputable def m_L_by_sums : List PyData → Rp := pureOf 6 b_L_by_sums
noncomputable def b_L_powers_right : MS :=
    (sSeq (sAsg 2 (eTup (aCons (eTup (aCons (eC (.int 1)) aNil)) (aCons (eC (.int 1)) aNil))))
    (sSeq (sFor (mR1 (aCons (eOp fAddA (eVar 1) (eC (.int 1))) aNil)) (gNameM 3)
    (sSeq (sIf (bNot (bTru (eCallP 2 (m_L_alike 8) (aCons (eCallP 2 m_power (aCons (eVar 0) (aCons (eVar 3) aNil))) (aCons (eVar 2) aNil)))))
    (sRet (eC (.bool false)))
    sNext)
    (sSeq (sIf (bAnd (bTest (eOp fLt (eVar 3) (eVar 1))) (bTest (eOp (opEq true) (eCallP 2 m_times (aCons (eCallP 2 m_power (aCons (eVar 0) (aCons (eVar 3) aNil))) (aCons (eVar 0) aNil))) (eCallP 2 m_power (aCons (eVar 0) (aCons (eOp fAddA (eVar 3) (eC (.int 1))) aNil))))))
    (sRet (eC (.bool false)))
    sNext)
    (sAsg 2 (eCallP 2 m_L_by_sums (aCons (eVar 2) (aCons (eVar 0) aNil)))))))
    (sRet (eC (.bool true)))))
@[irreducible] noncomputable def m_L_powers_right : List PyData → Rp := pureOf 4 b_L_powers_right
noncomputable def b_law_k05 : MS :=
    (sSeq (sAsg 2 (eCallF 3 m_L_great_poly (aCons (eVar 1) (aCons (eC (.int 12)) (aCons (eOp fIx (eFrz (lDisp (aCons (eC (.int 3)) (aCons (eC (.int 40)) aNil)))) (eCallF 2 m_L_pick (aCons (eVar 1) (aCons (eC (.int 2)) aNil)))) aNil)))))
    (sSeq (sAsg 3 (eCallF 3 m_L_great_poly (aCons (eVar 1) (aCons (eC (.int 12)) (aCons (eOp fIx (eFrz (lDisp (aCons (eC (.int 3)) (aCons (eC (.int 40)) aNil)))) (eCallF 2 m_L_pick (aCons (eVar 1) (aCons (eC (.int 2)) aNil)))) aNil)))))
    (sSeq (sFor (mAny (eFrz (lDisp (aCons (eTup (aCons (eVar 2) (aCons (eVar 3) aNil))) (aCons (eTup (aCons (eVar 3) (aCons (eVar 2) aNil))) (aCons (eTup (aCons (eVar 2) (aCons (eVar 2) aNil))) (aCons (eTup (aCons (eVar 2) (aCons (eTup (aCons (eTup aNil) (aCons (eC (.int 1)) aNil))) aNil))) (aCons (eTup (aCons (eVar 2) (aCons (eTup (aCons (eTup (aCons (eC (.int 1)) aNil)) (aCons (eC (.int 1)) aNil))) aNil))) (aCons (eTup (aCons (eVar 2) (aCons (eVar 3) aNil))) aNil))))))))) (gTupM 2 (gConsM (gNameM 4) (gConsM (gNameM 5) gNilM)))
    (sIf (bNot (bTru (eCallP 2 (m_L_alike 8) (aCons (eCallP 2 m_times (aCons (eVar 4) (aCons (eVar 5) aNil))) (aCons (eCallP 2 m_L_by_sums (aCons (eVar 4) (aCons (eVar 5) aNil))) aNil)))))
    (sRet (eC (.bool false)))
    sNext))
    (sSeq (sAsg 6 (eCallF 3 m_L_great_poly (aCons (eVar 1) (aCons (eC (.int 4)) (aCons (eC (.int 2)) aNil)))))
    (sSeq (sAsg 7 (eOp fIx (eFrz (lDisp (aCons (eC (.int 6)) (aCons (eC (.int 6)) (aCons (eC (.int 24)) (aCons (eC (.int 12)) (aCons (eC (.int 8)) (aCons (eC (.int 6)) aNil)))))))) (eCB cLen (aCons (eOp fIx (eVar 6) (eC (.int 0))) aNil))))
    (sRet (eCallP 2 m_L_powers_right (aCons (eVar 6) (aCons (eCB cMin2 (aCons (eVar 7) (aCons (eOp fAddA (eC (.int 2)) (eCallF 2 m_L_pick (aCons (eVar 1) (aCons (eC (.int 23)) aNil)))) aNil))) aNil)))))))))
noncomputable def b_value : MS :=
    (sSeq (sAsg 2 (eTup (aCons (eC (.int 0)) (aCons (eC (.int 1)) aNil))))
    (sSeq (sFor (mRev (eOp fIx (eVar 0) (eC (.int 0)))) (gNameM 3)
    (sAsg 2 (eCallP 2 m_added (aCons (eCallP 2 m_multiplied (aCons (eVar 2) (aCons (eVar 1) aNil))) (aCons (eTup (aCons (eVar 3) (aCons (eC (.int 1)) aNil))) aNil)))))
    (sRet (eCallP 2 m_multiplied (aCons (eVar 2) (aCons (eCallP 2 m_fraction (aCons (eC (.int 1)) (aCons (eOp fIx (eVar 0) (eC (.int 1))) aNil))) aNil))))))
@[irreducible] noncomputable def m_value : List PyData → Rp := pureOf 4 b_value
noncomputable def b_L_added : MS :=
    (sRet (eCallP 2 m_L_fraction (aCons (eOp fAddA (eOp fMulA (eOp fIx (eVar 0) (eC (.int 0))) (eOp fIx (eVar 1) (eC (.int 1)))) (eOp fMulA (eOp fIx (eVar 1) (eC (.int 0))) (eOp fIx (eVar 0) (eC (.int 1))))) (aCons (eOp fMulA (eOp fIx (eVar 0) (eC (.int 1))) (eOp fIx (eVar 1) (eC (.int 1)))) aNil))))
@[irreducible] noncomputable def m_L_added : List PyData → Rp := pureOf 2 b_L_added
noncomputable def b_L_product : MS :=
    (sRet (eCallP 2 m_L_fraction (aCons (eOp fMulA (eOp fIx (eVar 0) (eC (.int 0))) (eOp fIx (eVar 1) (eC (.int 0)))) (aCons (eOp fMulA (eOp fIx (eVar 0) (eC (.int 1))) (eOp fIx (eVar 1) (eC (.int 1)))) aNil))))
@[irreducible] noncomputable def m_L_product : List PyData → Rp := pureOf 2 b_L_product
noncomputable def b_L_worth : MS :=
    (sSeq (sAsg 2 (eTup (aCons (eC (.int 0)) (aCons (eC (.int 1)) aNil))))
    (sSeq (sAsg 3 (eTup (aCons (eC (.int 1)) (aCons (eC (.int 1)) aNil))))
    (sSeq (sFor (mAny (eOp fIx (eVar 0) (eC (.int 0)))) (gNameM 4)
    (sSeq (sAsg 2 (eCallP 2 m_L_added (aCons (eVar 2) (aCons (eCallP 2 m_L_product (aCons (eCallP 2 m_L_fraction (aCons (eVar 4) (aCons (eOp fIx (eVar 0) (eC (.int 1))) aNil))) (aCons (eVar 3) aNil))) aNil))))
    (sAsg 3 (eCallP 2 m_L_product (aCons (eVar 3) (aCons (eVar 1) aNil))))))
    (sRet (eVar 2)))))
@[irreducible] noncomputable def m_L_worth : List PyData → Rp := pureOf 5 b_L_worth
noncomputable def b_L_right_5 : MS :=
    (sSeq (sPar 3 4 (aCons (eCallP 2 m_L_worth (aCons (eVar 0) (aCons (eVar 2) aNil))) (aCons (eCallP 2 m_L_worth (aCons (eVar 1) (aCons (eVar 2) aNil))) aNil)))
    (sSeq (sIf (bOr (bNot (bTru (eCallP 2 (m_L_alike 8) (aCons (eCallP 2 m_value (aCons (eVar 0) (aCons (eVar 2) aNil))) (aCons (eVar 3) aNil))))) (bNot (bTru (eCallP 2 (m_L_alike 8) (aCons (eCallP 2 m_value (aCons (eVar 1) (aCons (eVar 2) aNil))) (aCons (eVar 4) aNil))))))
    (sRet (eC (.bool false)))
    sNext)
    (sSeq (sIf (bTest (eOp (opEq true) (eCallP 2 m_value (aCons (eCallP 2 m_plus (aCons (eVar 0) (aCons (eVar 1) aNil))) (aCons (eVar 2) aNil))) (eCallP 2 m_L_added (aCons (eVar 3) (aCons (eVar 4) aNil)))))
    (sRet (eC (.bool false)))
    sNext)
    (sRet (eOp (opEq false) (eCallP 2 m_value (aCons (eCallP 2 m_times (aCons (eVar 0) (aCons (eVar 1) aNil))) (aCons (eVar 2) aNil))) (eCallP 2 m_L_product (aCons (eVar 3) (aCons (eVar 4) aNil))))))))
@[irreducible] noncomputable def m_L_right_5 : List PyData → Rp := pureOf 5 b_L_right_5
noncomputable def b_law_k06 : MS :=
    (sSeq (sAsg 2 (eOp fIx (eFrz (lDisp (aCons (eC (.int 2)) (aCons (eC (.int 2)) (aCons (eC (.int 3)) (aCons (eC (.int 40)) aNil)))))) (eCallF 2 m_L_pick (aCons (eVar 1) (aCons (eC (.int 4)) aNil)))))
    (sSeq (sAsg 3 (eCallF 3 m_L_great_poly (aCons (eVar 1) (aCons (eC (.int 12)) (aCons (eVar 2) aNil)))))
    (sSeq (sAsg 4 (eCallF 3 m_L_great_poly (aCons (eVar 1) (aCons (eC (.int 12)) (aCons (eVar 2) aNil)))))
    (sSeq (sAsg 5 (eOp fIx (eFrz (lDisp (aCons (eVar 2) (aCons (eCB cMin2 (aCons (eVar 2) (aCons (eC (.int 6)) aNil))) aNil)))) (eCB cInt (aCons (eOp fGt (eOp fAddA (eCB cLen (aCons (eOp fIx (eVar 3) (eC (.int 0))) aNil)) (eCB cLen (aCons (eOp fIx (eVar 4) (eC (.int 0))) aNil))) (eC (.int 7))) aNil))))
    (sSeq (sAsg 6 (eOp fAddA (eFrz (lLc (mR1 (aCons (eC (.int 2)) aNil)) (([(("_law_k" : Str), 8)] : List (Str × Nat)).map (·.2)) (gNameM 8) bYes (eCallF 2 m_L_great_fraction (aCons (eVar 1) (aCons (eVar 5) aNil))))) (eFrz (lDisp (aCons (eTup (aCons (eC (.int 0)) (aCons (eC (.int 1)) aNil))) aNil)))))
    (sSeq (sFor (mAny (eOp fAddA (eVar 6) (eSlAny (eVar 6) oNone (oSome (eC (.int 1)))))) (gNameM 7)
    (sIf (bNot (bTru (eCallP 3 m_L_right_5 (aCons (eVar 3) (aCons (eVar 4) (aCons (eVar 7) aNil))))))
    (sRet (eC (.bool false)))
    sNext))
    (sRet (eCallP 2 (m_L_alike 8) (aCons (eCallP 2 m_value (aCons (eTup (aCons (eTup aNil) (aCons (eC (.int 1)) aNil))) (aCons (eOp fIx (eVar 6) (eC (.int 0))) aNil))) (aCons (eTup (aCons (eC (.int 0)) (aCons (eC (.int 1)) aNil))) aNil))))))))))
def c_NOUGHT : PyData := .tuple [.tuple [], .int 1]
noncomputable def b_put : MS :=
    (sSeq (sAsg 2 (eC c_NOUGHT))
    (sSeq (sFor (mRev (eOp fIx (eVar 0) (eC (.int 0)))) (gNameM 3)
    (sAsg 2 (eCallP 2 m_plus (aCons (eCallP 2 m_times (aCons (eVar 2) (aCons (eVar 1) aNil))) (aCons (eCallP 2 m_over (aCons (eFrz (lDisp (aCons (eVar 3) aNil))) (aCons (eOp fIx (eVar 0) (eC (.int 1))) aNil))) aNil)))))
    (sRet (eVar 2))))
@[irreducible] noncomputable def m_put : List PyData → Rp := pureOf 4 b_put
def c_LETTER : PyData := .tuple [.tuple [.int 0, .int 1], .int 1]
noncomputable def b_again : MS :=
    (sSeq (sAsg 2 (eC c_LETTER))
    (sSeq (sFor (mR1 (aCons (eVar 1) aNil)) (gNameM 3)
    (sAsg 2 (eCallP 2 m_put (aCons (eVar 0) (aCons (eVar 2) aNil)))))
    (sRet (eVar 2))))
@[irreducible] noncomputable def m_again : List PyData → Rp := pureOf 4 b_again
noncomputable def b_L_sum : MS :=
    (sSeq (sAsg 2 (eCB cMax2 (aCons (eCB cLen (aCons (eOp fIx (eVar 0) (eC (.int 0))) aNil)) (aCons (eCB cLen (aCons (eOp fIx (eVar 1) (eC (.int 0))) aNil)) aNil))))
    (sSeq (sAsg 3 (eOwn (lOp fRep (eFrz (lDisp (aCons (eC (.int 0)) aNil))) (eVar 2))))
    (sSeq (sFor (mEnum (aCons (eOp fIx (eVar 0) (eC (.int 0))) aNil)) (gTupM 2 (gConsM (gNameM 4) (gConsM (gNameM 5) gNilM)))
    (sAsgG (eOp fAddA (eOp fIx (eVar 3) (eVar 4)) (eOp fMulA (eVar 5) (eOp fIx (eVar 1) (eC (.int 1))))) (gSubM (eVar 3) (eVar 4))))
    (sSeq (sFor (mEnum (aCons (eOp fIx (eVar 1) (eC (.int 0))) aNil)) (gTupM 2 (gConsM (gNameM 4) (gConsM (gNameM 5) gNilM)))
    (sAsgG (eOp fAddA (eOp fIx (eVar 3) (eVar 4)) (eOp fMulA (eVar 5) (eOp fIx (eVar 0) (eC (.int 1))))) (gSubM (eVar 3) (eVar 4))))
    (sRet (eCallP 2 m_L_poly (aCons (eVar 3) (aCons (eOp fMulA (eOp fIx (eVar 0) (eC (.int 1))) (eOp fIx (eVar 1) (eC (.int 1)))) aNil))))))))
@[irreducible] noncomputable def m_L_sum : List PyData → Rp := pureOf 6 b_L_sum
noncomputable def b_L_times : MS :=
    (sSeq (sAsg 2 (eOwn (lOp fRep (eFrz (lDisp (aCons (eC (.int 0)) aNil))) (eOp fAddA (eCB cLen (aCons (eOp fIx (eVar 0) (eC (.int 0))) aNil)) (eCB cLen (aCons (eOp fIx (eVar 1) (eC (.int 0))) aNil))))))
    (sSeq (sFor (mEnum (aCons (eOp fIx (eVar 0) (eC (.int 0))) aNil)) (gTupM 2 (gConsM (gNameM 3) (gConsM (gNameM 4) gNilM)))
    (sFor (mEnum (aCons (eOp fIx (eVar 1) (eC (.int 0))) aNil)) (gTupM 2 (gConsM (gNameM 5) (gConsM (gNameM 6) gNilM)))
    (sAsgG (eOp fAddA (eOp fIx (eVar 2) (eOp fAddA (eVar 3) (eVar 5))) (eOp fMulA (eVar 4) (eVar 6))) (gSubM (eVar 2) (eOp fAddA (eVar 3) (eVar 5))))))
    (sRet (eCallP 2 m_L_poly (aCons (eVar 2) (aCons (eOp fMulA (eOp fIx (eVar 0) (eC (.int 1))) (eOp fIx (eVar 1) (eC (.int 1)))) aNil))))))
@[irreducible] noncomputable def m_L_times : List PyData → Rp := pureOf 7 b_L_times
noncomputable def b_L_by_powers_2 : MS :=
    (sSeq (sAsg 2 (eTup (aCons (eTup aNil) (aCons (eC (.int 1)) aNil))))
    (sSeq (sAsg 3 (eTup (aCons (eTup (aCons (eC (.int 1)) aNil)) (aCons (eC (.int 1)) aNil))))
    (sSeq (sFor (mAny (eOp fIx (eVar 0) (eC (.int 0)))) (gNameM 4)
    (sSeq (sAsg 2 (eCallP 2 m_L_sum (aCons (eVar 2) (aCons (eCallP 2 m_L_times (aCons (eVar 3) (aCons (eCallP 2 m_L_poly (aCons (eFrz (lDisp (aCons (eVar 4) aNil))) (aCons (eOp fIx (eVar 0) (eC (.int 1))) aNil))) aNil))) aNil))))
    (sAsg 3 (eCallP 2 m_L_times (aCons (eVar 3) (aCons (eVar 1) aNil))))))
    (sRet (eVar 2)))))
@[irreducible] noncomputable def m_L_by_powers_2 : List PyData → Rp := pureOf 5 b_L_by_powers_2
noncomputable def b_L_right_6 : MS :=
    (sSeq (sAsg 3 (eCallP 2 m_put (aCons (eVar 0) (aCons (eVar 1) aNil))))
    (sSeq (sIf (bOr (bNot (bTru (eCallP 2 (m_L_alike 8) (aCons (eVar 3) (aCons (eCallP 2 m_L_by_powers_2 (aCons (eVar 0) (aCons (eVar 1) aNil))) aNil))))) (bTest (eOp (opEq true) (eCallP 2 m_value (aCons (eVar 3) (aCons (eVar 2) aNil))) (eCallP 2 m_value (aCons (eVar 0) (aCons (eCallP 2 m_value (aCons (eVar 1) (aCons (eVar 2) aNil))) aNil))))))
    (sRet (eC (.bool false)))
    sNext)
    (sRet (eAndV (eOp (opEq false) (eCallP 2 m_put (aCons (eVar 0) (aCons (eTup (aCons (eTup (aCons (eC (.int 0)) (aCons (eC (.int 1)) aNil))) (aCons (eC (.int 1)) aNil))) aNil))) (eVar 0)) (eOp (opEq false) (eCallP 2 m_put (aCons (eTup (aCons (eTup (aCons (eC (.int 0)) (aCons (eC (.int 1)) aNil))) (aCons (eC (.int 1)) aNil))) (aCons (eVar 0) aNil))) (eVar 0))))))
@[irreducible] noncomputable def m_L_right_6 : List PyData → Rp := pureOf 4 b_L_right_6
noncomputable def b_L_again_right : MS :=
    (sSeq (sAsg 2 (eTup (aCons (eTup (aCons (eC (.int 0)) (aCons (eC (.int 1)) aNil))) (aCons (eC (.int 1)) aNil))))
    (sSeq (sFor (mR1 (aCons (eOp fAddA (eVar 1) (eC (.int 1))) aNil)) (gNameM 3)
    (sSeq (sIf (bNot (bTru (eCallP 2 (m_L_alike 8) (aCons (eCallP 2 m_again (aCons (eVar 0) (aCons (eVar 3) aNil))) (aCons (eVar 2) aNil)))))
    (sRet (eC (.bool false)))
    sNext)
    (sAsg 2 (eCallP 2 m_L_by_powers_2 (aCons (eVar 0) (aCons (eVar 2) aNil))))))
    (sRet (eC (.bool true)))))
@[irreducible] noncomputable def m_L_again_right : List PyData → Rp := pureOf 4 b_L_again_right
noncomputable def b_law_k07 : MS :=
    (sSeq (sAsg 2 (eOp fIx (eFrz (lDisp (aCons (eC (.int 1)) (aCons (eC (.int 2)) (aCons (eC (.int 6)) (aCons (eC (.int 40)) aNil)))))) (eCallF 2 m_L_pick (aCons (eVar 1) (aCons (eC (.int 4)) aNil)))))
    (sSeq (sAsg 3 (eCallF 3 m_L_great_poly (aCons (eVar 1) (aCons (eOp fIx (eFrz (lDisp (aCons (eC (.int 3)) (aCons (eC (.int 4)) (aCons (eC (.int 12)) (aCons (eC (.int 6)) aNil)))))) (eCallF 2 m_L_pick (aCons (eVar 1) (aCons (eC (.int 4)) aNil)))) (aCons (eVar 2) aNil)))))
    (sSeq (sAsg 4 (eCallF 3 m_L_great_poly (aCons (eVar 1) (aCons (eCB cMin2 (aCons (eC (.int 12)) (aCons (eOp fDiv (eC (.int 24)) (eCB cMax2 (aCons (eC (.int 1)) (aCons (eOp fSub (eCB cLen (aCons (eOp fIx (eVar 3) (eC (.int 0))) aNil)) (eC (.int 1))) aNil)))) aNil))) (aCons (eVar 2) aNil)))))
    (sSeq (sAsg 5 (eCallF 2 m_L_great_fraction (aCons (eVar 1) (aCons (eOp fIx (eFrz (lDisp (aCons (eC (.int 1)) (aCons (eC (.int 2)) (aCons (eC (.int 3)) (aCons (eC (.int 3)) aNil)))))) (eCallF 2 m_L_pick (aCons (eVar 1) (aCons (eC (.int 4)) aNil)))) aNil))))
    (sSeq (sIf (bOr (bNot (bTru (eCallP 3 m_L_right_6 (aCons (eVar 3) (aCons (eVar 4) (aCons (eVar 5) aNil)))))) (bOr (bNot (bTru (eCallP 3 m_L_right_6 (aCons (eVar 3) (aCons (eTup (aCons (eTup (aCons (eC (.int 0)) (aCons (eC (.int 1)) aNil))) (aCons (eC (.int 1)) aNil))) (aCons (eVar 5) aNil)))))) (bNot (bTru (eCallP 3 m_L_right_6 (aCons (eVar 3) (aCons (eVar 4) (aCons (eVar 5) aNil))))))))
    (sRet (eC (.bool false)))
    sNext)
    (sSeq (sAsgG (eFrz (lLc (mR1 (aCons (eC (.int 3)) aNil)) (([(("_law_k" : Str), 10)] : List (Str × Nat)).map (·.2)) (gNameM 10) bYes (eCallF 3 m_L_great_poly (aCons (eVar 1) (aCons (eC (.int 2)) (aCons (eC (.int 2)) aNil)))))) (gSeqM 3 (gConsM (gNameM 6) (gConsM (gNameM 7) (gConsM (gNameM 8) gNilM)))))
    (sSeq (sIf (bTest (eOp (opEq true) (eCallP 2 m_put (aCons (eCallP 2 m_put (aCons (eVar 6) (aCons (eVar 7) aNil))) (aCons (eVar 8) aNil))) (eCallP 2 m_put (aCons (eVar 6) (aCons (eCallP 2 m_put (aCons (eVar 7) (aCons (eVar 8) aNil))) aNil)))))
    (sRet (eC (.bool false)))
    sNext)
    (sSeq (sAsg 9 (eCallF 3 m_L_great_poly (aCons (eVar 1) (aCons (eC (.int 4)) (aCons (eC (.int 1)) aNil)))))
    (sRet (eCallP 2 m_L_again_right (aCons (eVar 9) (aCons (eCB cMin2 (aCons (eOp fIx (eFrz (lDisp (aCons (eC (.int 6)) (aCons (eC (.int 6)) (aCons (eC (.int 6)) (aCons (eC (.int 4)) (aCons (eC (.int 2)) (aCons (eC (.int 2)) aNil)))))))) (eCB cLen (aCons (eOp fIx (eVar 9) (eC (.int 0))) aNil))) (aCons (eCallF 2 m_L_pick (aCons (eVar 1) (aCons (eC (.int 7)) aNil))) aNil))) aNil))))))))))))
noncomputable def b_raised : MS :=
    (sSeq (sAsg 2 (eC (.int 1)))
    (sSeq (sFor (mR1 (aCons (eVar 1) aNil)) (gNameM 3)
    (sAsg 2 (eOp fMulA (eVar 2) (eVar 0))))
    (sRet (eVar 2))))
@[irreducible] noncomputable def m_raised : List PyData → Rp := pureOf 4 b_raised
noncomputable def b_whole_root : MS :=
    (sSeq (sAsg 2 (eC (.int 0)))
    (sSeq (sAsg 3 (eC (.int 1)))
    (sSeq (sWhile (bTest (eOp fLt (eCallP 2 m_raised (aCons (eVar 3) (aCons (eVar 1) aNil))) (eVar 0)))
    (sSeq (sAsg 2 (eVar 3))
    (sAsg 3 (eOp fMulA (eC (.int 2)) (eVar 3)))))
    (sSeq (sWhile (bTest (eOp fLt (eVar 2) (eVar 3)))
    (sSeq (sAsg 4 (eOp fDiv (eOp fAddA (eVar 2) (eVar 3)) (eC (.int 2))))
    (sIf (bTest (eOp fLt (eCallP 2 m_raised (aCons (eVar 4) (aCons (eVar 1) aNil))) (eVar 0)))
    (sAsg 2 (eOp fAddA (eVar 4) (eC (.int 1))))
    (sAsg 3 (eVar 4)))))
    (sSeq (sIf (bTest (eOp (opEq false) (eCallP 2 m_raised (aCons (eVar 2) (aCons (eVar 1) aNil))) (eVar 0)))
    (sRet (eVar 2))
    sNext)
    (sRet (eC .none)))))))
@[irreducible] noncomputable def m_whole_root : List PyData → Rp := pureOf 5 b_whole_root
noncomputable def b_roots : MS :=
    (sSeq (sAsg 2 (eCallP 2 m_whole_root (aCons (eCB cAbs (aCons (eOp fIx (eVar 0) (eC (.int 0))) aNil)) (aCons (eVar 1) aNil))))
    (sSeq (sAsg 3 (eCallP 2 m_whole_root (aCons (eOp fIx (eVar 0) (eC (.int 1))) (aCons (eVar 1) aNil))))
    (sSeq (sIf (bOr (bTest (eOp (fIsN false) (eVar 2) (eC .none))) (bOr (bTest (eOp (fIsN false) (eVar 3) (eC .none))) (bAnd (bTest (eOp fLt (eOp fIx (eVar 0) (eC (.int 0))) (eC (.int 0)))) (bTest (eOp (opEq false) (eOp fMod (eVar 1) (eC (.int 2))) (eC (.int 0)))))))
    (sRet (eOwn (lDisp aNil)))
    sNext)
    (sSeq (sIf (bTest (eOp fLt (eOp fIx (eVar 0) (eC (.int 0))) (eC (.int 0))))
    (sRet (eOwn (lDisp (aCons (eTup (aCons (eOp fSub (eC (.int 0)) (eVar 2)) (aCons (eVar 3) aNil))) aNil))))
    sNext)
    (sSeq (sIf (bAnd (bTest (eOp fGt (eVar 2) (eC (.int 0)))) (bTest (eOp (opEq false) (eOp fMod (eVar 1) (eC (.int 2))) (eC (.int 0)))))
    (sRet (eOwn (lDisp (aCons (eTup (aCons (eOp fSub (eC (.int 0)) (eVar 2)) (aCons (eVar 3) aNil))) (aCons (eTup (aCons (eVar 2) (aCons (eVar 3) aNil))) aNil)))))
    sNext)
    (sRet (eOwn (lDisp (aCons (eTup (aCons (eVar 2) (aCons (eVar 3) aNil))) aNil)))))))))
@[irreducible] noncomputable def m_roots : List PyData → Rp := pureOf 4 b_roots
noncomputable def b_L_alike_3 (mm : List PyData → Rp) : MS :=
    (sSeq (sIf (bTru (eIsiT (eVar 1) ["list", "tuple"]))
    (sSeq (sIf (bTest (eOp (opEq true) (eIsi (eVar 0) "list") (eIsi (eVar 1) "list")))
    (sRet (eC (.bool false)))
    sNext)
    (sSeq (sIf (bTest (eOp (opEq true) (eIsi (eVar 0) "tuple") (eIsi (eVar 1) "tuple")))
    (sRet (eC (.bool false)))
    sNext)
    (sSeq (sIf (bTest (eOp (opEq true) (eCB cLen (aCons (eVar 0) aNil)) (eCB cLen (aCons (eVar 1) aNil))))
    (sRet (eC (.bool false)))
    sNext)
    (sRet (eCB cAll (aCons (eFrz (lLc (mR1 (aCons (eCB cLen (aCons (eVar 1) aNil)) aNil)) (([(("_law_k" : Str), 2)] : List (Str × Nat)).map (·.2)) (gNameM 2) bYes (eCallP 2 mm (aCons (eOp fIx (eVar 0) (eVar 2)) (aCons (eOp fIx (eVar 1) (eVar 2)) aNil))))) aNil))))))
    sNext)
    (sRet (eAndV (eOp (opEq false) (eIsi (eVar 0) "bool") (eIsi (eVar 1) "bool")) (eOp (opEq false) (eVar 0) (eVar 1)))))
noncomputable def r_L_alike_3 : Nat → List PyData → Rp
  | 0 => fun _ => .no
  | n + 1 => pureOf 3 (b_L_alike_3 (r_L_alike_3 n))
@[irreducible] noncomputable def m_L_alike_3 (n : Nat) : List PyData → Rp := r_L_alike_3 n
theorem z_L_alike_3 : m_L_alike_3 0 = fun _ => .no := by unfold m_L_alike_3; rfl
theorem s_L_alike_3 {n : Nat} : m_L_alike_3 (n + 1) = pureOf 3 (b_L_alike_3 (m_L_alike_3 n)) := by unfold m_L_alike_3; rfl
noncomputable def b_L_grown : MS :=
    (sSeq (sAsg 2 (eC (.int 1)))
    (sSeq (sFor (mR1 (aCons (eVar 1) aNil)) (gNameM 3)
    (sAsg 2 (eOp fMulA (eVar 2) (eVar 0))))
    (sRet (eVar 2))))
@[irreducible] noncomputable def m_L_grown : List PyData → Rp := pureOf 4 b_L_grown
noncomputable def b_L_whole_root : MS :=
    (sSeq (sAsg 2 (eC (.int 1)))
    (sSeq (sWhile (bTest (eOp fLe (eCallP 2 m_L_grown (aCons (eVar 2) (aCons (eVar 1) aNil))) (eVar 0)))
    (sAsg 2 (eOp fMulA (eC (.int 2)) (eVar 2))))
    (sSeq (sAsg 3 (eC (.int 0)))
    (sSeq (sWhile (bTest (eOp fGt (eVar 2) (eC (.int 0))))
    (sSeq (sIf (bTest (eOp fLe (eCallP 2 m_L_grown (aCons (eOp fAddA (eVar 3) (eVar 2)) (aCons (eVar 1) aNil))) (eVar 0)))
    (sAsg 3 (eOp fAddA (eVar 3) (eVar 2)))
    sNext)
    (sAsg 2 (eOp fDiv (eVar 2) (eC (.int 2))))))
    (sRet (eVar 3))))))
@[irreducible] noncomputable def m_L_whole_root : List PyData → Rp := pureOf 4 b_L_whole_root
noncomputable def b_L_roots : MS :=
    (sSeq (sAsg 2 (eCallP 2 m_L_whole_root (aCons (eCB cAbs (aCons (eOp fIx (eVar 0) (eC (.int 0))) aNil)) (aCons (eVar 1) aNil))))
    (sSeq (sAsg 3 (eCallP 2 m_L_whole_root (aCons (eOp fIx (eVar 0) (eC (.int 1))) (aCons (eVar 1) aNil))))
    (sSeq (sIf (bOr (bTest (eOp (opEq true) (eCallP 2 m_L_grown (aCons (eVar 2) (aCons (eVar 1) aNil))) (eCB cAbs (aCons (eOp fIx (eVar 0) (eC (.int 0))) aNil)))) (bOr (bTest (eOp (opEq true) (eCallP 2 m_L_grown (aCons (eVar 3) (aCons (eVar 1) aNil))) (eOp fIx (eVar 0) (eC (.int 1))))) (bAnd (bTest (eOp fLt (eOp fIx (eVar 0) (eC (.int 0))) (eC (.int 0)))) (bTest (eOp (opEq false) (eOp fMod (eVar 1) (eC (.int 2))) (eC (.int 0)))))))
    (sRet (eFrz (lDisp aNil)))
    sNext)
    (sSeq (sIf (bTest (eOp fLt (eOp fIx (eVar 0) (eC (.int 0))) (eC (.int 0))))
    (sRet (eFrz (lDisp (aCons (eTup (aCons (eOp fSub (eC (.int 0)) (eVar 2)) (aCons (eVar 3) aNil))) aNil))))
    sNext)
    (sRet (eOp fAddA (eOp fMulA (eFrz (lDisp (aCons (eTup (aCons (eOp fSub (eC (.int 0)) (eVar 2)) (aCons (eVar 3) aNil))) aNil))) (eCB cInt (aCons (eAndV (eOp (opEq false) (eOp fMod (eVar 1) (eC (.int 2))) (eC (.int 0))) (eOp fGt (eVar 2) (eC (.int 0)))) aNil))) (eFrz (lDisp (aCons (eTup (aCons (eVar 2) (aCons (eVar 3) aNil))) aNil)))))))))
@[irreducible] noncomputable def m_L_roots : List PyData → Rp := pureOf 4 b_L_roots
noncomputable def b_L_near : MS :=
    (sSeq (sAsg 2 (eOp fIx (eFrz (lDisp (aCons (eC (.int 3)) (aCons (eC (.int 10)) (aCons (eC (.int 100)) (aCons (eCallP 2 m_L_grown (aCons (eC (.int 10)) (aCons (eOp fDiv (eC (.int 90)) (eVar 1)) aNil))) aNil)))))) (eCallF 2 m_L_pick (aCons (eVar 0) (aCons (eC (.int 4)) aNil)))))
    (sSeq (sPar 3 4 (aCons (eCallF 2 m_L_pick (aCons (eVar 0) (aCons (eOp fAddA (eVar 2) (eC (.int 1))) aNil))) (aCons (eOp fAddA (eC (.int 1)) (eCallF 2 m_L_pick (aCons (eVar 0) (aCons (eVar 2) aNil)))) aNil)))
    (sSeq (sAsg 5 (eCallP 2 m_L_fraction (aCons (eVar 3) (aCons (eVar 4) aNil))))
    (sSeq (sAsg 5 (eTup (aCons (eOp fMulA (eCallP 2 m_L_grown (aCons (eOp fIx (eVar 5) (eC (.int 0))) (aCons (eVar 1) aNil))) (eOp fSub (eC (.int 1)) (eOp fMulA (eC (.int 2)) (eCallF 2 m_L_pick (aCons (eVar 0) (aCons (eC (.int 2)) aNil)))))) (aCons (eCallP 2 m_L_grown (aCons (eOp fIx (eVar 5) (eC (.int 1))) (aCons (eVar 1) aNil))) aNil))))
    (sSeq (sAsg 6 (eCallF 2 m_L_pick (aCons (eVar 0) (aCons (eC (.int 6)) aNil))))
    (sSeq (sIf (bTest (eOp fGt (eVar 6) (eC (.int 1))))
    (sRet (eVar 5))
    sNext)
    (sRet (eOp fIx (eFrz (lDisp (aCons (eCallP 2 m_L_fraction (aCons (eOp fSub (eOp fAddA (eOp fIx (eVar 5) (eC (.int 0))) (eC (.int 1))) (eOp fMulA (eC (.int 2)) (eCallF 2 m_L_pick (aCons (eVar 0) (aCons (eC (.int 2)) aNil))))) (aCons (eOp fIx (eVar 5) (eC (.int 1))) aNil))) (aCons (eCallP 2 m_L_fraction (aCons (eOp fIx (eVar 5) (eC (.int 0))) (aCons (eOp fAddA (eOp fIx (eVar 5) (eC (.int 1))) (eC (.int 1))) aNil))) aNil)))) (eVar 6)))))))))
@[irreducible] noncomputable def m_L_near : List PyData → Fl → Rf := flowOf 7 b_L_near
noncomputable def b_law_k21 : MS :=
    (sSeq (sAsg 2 (eOwn (lDisp aNil)))
    (sSeq (sFor (mR1 (aCons (eC (.int 3)) aNil)) (gNameM 3)
    (sSeq (sAsg 4 (eOp fAddA (eC (.int 1)) (eCallF 2 m_L_pick (aCons (eVar 1) (aCons (eC (.int 15)) aNil)))))
    (sDrop (eMethL mAppend (eVar 2) (aCons (eTup (aCons (eCallF 2 m_L_near (aCons (eVar 1) (aCons (eVar 4) aNil))) (aCons (eVar 4) aNil))) aNil)))))
    (sSeq (sAsg 5 (if true = true then eFrz (lLc (mAny (eVar 2)) (([(("_law_r" : Str), 6), (("_law_k" : Str), 4)] : List (Str × Nat)).map (·.2)) (gTupM 2 (gConsM (gNameM 6) (gConsM (gNameM 4) gNilM))) bYes (eTup (aCons (eVar 6) (aCons (eOp fAddA (eC (.int 1)) (eOp fMod (eVar 4) (eC (.int 15)))) aNil)))) else eOwn (lLc (mAny (eVar 2)) (([(("_law_r" : Str), 6), (("_law_k" : Str), 4)] : List (Str × Nat)).map (·.2)) (gTupM 2 (gConsM (gNameM 6) (gConsM (gNameM 4) gNilM))) bYes (eTup (aCons (eVar 6) (aCons (eOp fAddA (eC (.int 1)) (eOp fMod (eVar 4) (eC (.int 15)))) aNil))))))
    (sSeq (sFor (mAny (eOp fAddA (eOp fAddA (eVar 2) (eVar 5)) (eSlAny (eVar 2) oNone (oSome (eC (.int 1)))))) (gTupM 2 (gConsM (gNameM 6) (gConsM (gNameM 4) gNilM)))
    (sSeq (sAsg 7 (eCallP 2 m_L_roots (aCons (eVar 6) (aCons (eVar 4) aNil))))
    (sSeq (sAsg 8 (eCallO 2 m_roots (aCons (eVar 6) (aCons (eVar 4) aNil))))
    (sSeq (sIf (bNot (bTru (eCallP 2 (m_L_alike_3 8) (aCons (eVar 8) (aCons (eVar 7) aNil)))))
    (sRet (eC (.bool false)))
    sNext)
    (sSeq (sIf (bTru (eCB cAny (aCons (eFrz (lLc (mAny (eVar 8)) (([(("_law_one" : Str), 9)] : List (Str × Nat)).map (·.2)) (gNameM 9) bYes (eOp (opEq true) (eCallP 2 m_L_fraction (aCons (eCallP 2 m_L_grown (aCons (eOp fIx (eVar 9) (eC (.int 0))) (aCons (eVar 4) aNil))) (aCons (eCallP 2 m_L_grown (aCons (eOp fIx (eVar 9) (eC (.int 1))) (aCons (eVar 4) aNil))) aNil))) (eVar 6)))) aNil)))
    (sRet (eC (.bool false)))
    sNext)
    (sSeq (sDrop (eMethL mClear (eVar 8) aNil))
    (sIf (bNot (bTru (eCallP 2 (m_L_alike_3 8) (aCons (eCallP 2 m_roots (aCons (eVar 6) (aCons (eVar 4) aNil))) (aCons (eVar 7) aNil)))))
    (sRet (eC (.bool false)))
    sNext)))))))
    (sRet (eC (.bool true)))))))
noncomputable def b_straight : MS :=
    (sRet (eCallP 1 m_poly (aCons (eFrz (lDisp (aCons (eVar 1) (aCons (eVar 0) aNil)))) aNil)))
@[irreducible] noncomputable def m_straight : List PyData → Rp := pureOf 2 b_straight
noncomputable def b_turned_back : MS :=
    (sSeq (sAsg 1 (eCallP 2 m_divided (aCons (eTup (aCons (eC (.int 1)) (aCons (eC (.int 1)) aNil))) (aCons (eCallP 2 m_fraction_at (aCons (eVar 0) (aCons (eC (.int 1)) aNil))) aNil))))
    (sRet (eCallP 2 m_straight (aCons (eVar 1) (aCons (eCallP 2 m_multiplied (aCons (eTup (aCons (eC (.int (-1))) (aCons (eC (.int 1)) aNil))) (aCons (eCallP 2 m_multiplied (aCons (eVar 1) (aCons (eCallP 2 m_fraction_at (aCons (eVar 0) (aCons (eC (.int 0)) aNil))) aNil))) aNil))) aNil)))))
@[irreducible] noncomputable def m_turned_back : List PyData → Rp := pureOf 2 b_turned_back
noncomputable def b_L_of : MS :=
    (sSeq (sAsg 2 (eTup (aCons (eTup aNil) (aCons (eC (.int 1)) aNil))))
    (sSeq (sFor (mRev (eOp fIx (eVar 0) (eC (.int 0)))) (gNameM 3)
    (sAsg 2 (eCallP 2 m_L_sum (aCons (eCallP 2 m_L_times (aCons (eVar 2) (aCons (eVar 1) aNil))) (aCons (eCallP 2 m_L_poly (aCons (eFrz (lDisp (aCons (eVar 3) aNil))) (aCons (eOp fIx (eVar 0) (eC (.int 1))) aNil))) aNil)))))
    (sRet (eVar 2))))
@[irreducible] noncomputable def m_L_of : List PyData → Rp := pureOf 4 b_L_of
noncomputable def b_L_straight : MS :=
    (sRet (eCallP 2 m_L_poly (aCons (eFrz (lDisp (aCons (eOp fMulA (eOp fIx (eVar 1) (eC (.int 0))) (eOp fIx (eVar 0) (eC (.int 1)))) (aCons (eOp fMulA (eOp fIx (eVar 0) (eC (.int 0))) (eOp fIx (eVar 1) (eC (.int 1)))) aNil)))) (aCons (eOp fMulA (eOp fIx (eVar 0) (eC (.int 1))) (eOp fIx (eVar 1) (eC (.int 1)))) aNil))))
@[irreducible] noncomputable def m_L_straight : List PyData → Rp := pureOf 2 b_L_straight
noncomputable def b_L_turned_back : MS :=
    (sSeq (sAsgG (eOp fIx (eVar 0) (eC (.int 0))) (gTupM 2 (gConsM (gNameM 1) (gConsM (gNameM 2) gNilM))))
    (sSeq (sAsg 3 (eOp fIx (eFrz (lDisp (aCons (eOp fSub (eC (.int 0)) (eC (.int 1))) (aCons (eC (.int 1)) aNil)))) (eCB cInt (aCons (eOp fGt (eVar 2) (eC (.int 0))) aNil))))
    (sRet (eCallP 2 m_L_poly (aCons (eFrz (lDisp (aCons (eOp fSub (eC (.int 0)) (eOp fMulA (eVar 1) (eVar 3))) (aCons (eOp fMulA (eOp fIx (eVar 0) (eC (.int 1))) (eVar 3)) aNil)))) (aCons (eCB cAbs (aCons (eVar 2) aNil)) aNil))))))
@[irreducible] noncomputable def m_L_turned_back : List PyData → Rp := pureOf 4 b_L_turned_back
noncomputable def b_L_number : MS :=
    (sRet (eOp fSub (eCallF 2 m_L_pick (aCons (eVar 0) (aCons (eOp fAddA (eOp fMulA (eC (.int 2)) (eVar 1)) (eC (.int 1))) aNil))) (eVar 1)))
@[irreducible] noncomputable def m_L_number : List PyData → Fl → Rf := flowOf 2 b_L_number
noncomputable def b_L_pair : MS :=
    (sSeq (sAsg 1 (eOp fIx (eFrz (lDisp (aCons (eC (.int 3)) (aCons (eC (.int 100)) (aCons (eOp fPow (eC (.int 10)) (eC (.int 18))) (aCons (eOp fPow (eC (.int 10)) (eC (.int 39))) aNil)))))) (eCallF 2 m_L_pick (aCons (eVar 0) (aCons (eC (.int 4)) aNil)))))
    (sSeq (sAsg 2 (eCallP 2 m_L_fraction (aCons (eOp fAddA (eC (.int 1)) (eCallF 2 m_L_pick (aCons (eVar 0) (aCons (eVar 1) aNil)))) (aCons (eOp fAddA (eC (.int 1)) (eCallF 2 m_L_pick (aCons (eVar 0) (aCons (eVar 1) aNil)))) aNil))))
    (sSeq (sAsg 3 (eCallP 2 m_L_fraction (aCons (eCallF 2 m_L_number (aCons (eVar 0) (aCons (eVar 1) aNil))) (aCons (eOp fAddA (eC (.int 1)) (eCallF 2 m_L_pick (aCons (eVar 0) (aCons (eVar 1) aNil)))) aNil))))
    (sRet (eTup (aCons (eTup (aCons (eOp fMulA (eOp fIx (eVar 2) (eC (.int 0))) (eOp fSub (eC (.int 1)) (eOp fMulA (eC (.int 2)) (eCallF 2 m_L_pick (aCons (eVar 0) (aCons (eC (.int 2)) aNil)))))) (aCons (eOp fIx (eVar 2) (eC (.int 1))) aNil))) (aCons (eVar 3) aNil)))))))
@[irreducible] noncomputable def m_L_pair : List PyData → Fl → Rf := flowOf 4 b_L_pair
noncomputable def b_L_right_14 : MS :=
    (sSeq (sAsg 2 (eCallP 2 m_straight (aCons (eVar 0) (aCons (eVar 1) aNil))))
    (sSeq (sIf (bNot (bTru (eCallP 2 (m_L_alike_3 8) (aCons (eVar 2) (aCons (eCallP 2 m_L_straight (aCons (eVar 0) (aCons (eVar 1) aNil))) aNil)))))
    (sRet (eC (.bool false)))
    sNext)
    (sSeq (sAsg 3 (eCallP 1 m_turned_back (aCons (eVar 2) aNil)))
    (sSeq (sIf (bOr (bNot (bTru (eCallP 2 (m_L_alike_3 8) (aCons (eVar 3) (aCons (eCallP 1 m_L_turned_back (aCons (eVar 2) aNil)) aNil))))) (bOr (bTest (eOp (opEq true) (eCallP 2 m_L_of (aCons (eVar 2) (aCons (eVar 3) aNil))) (eTup (aCons (eTup (aCons (eC (.int 0)) (aCons (eC (.int 1)) aNil))) (aCons (eC (.int 1)) aNil))))) (bTest (eOp (opEq true) (eCallP 2 m_L_of (aCons (eVar 3) (aCons (eVar 2) aNil))) (eTup (aCons (eTup (aCons (eC (.int 0)) (aCons (eC (.int 1)) aNil))) (aCons (eC (.int 1)) aNil)))))))
    (sRet (eC (.bool false)))
    sNext)
    (sRet (eOp (opEq false) (eCallP 1 m_turned_back (aCons (eVar 3) aNil)) (eVar 2)))))))
@[irreducible] noncomputable def m_L_right_14 : List PyData → Rp := pureOf 4 b_L_right_14
noncomputable def b_law_k22 : MS :=
    (sSeq (sPar 2 3 (aCons (eCallF 1 m_L_pair (aCons (eVar 1) aNil)) (aCons (eCallF 1 m_L_pair (aCons (eVar 1) aNil)) aNil)))
    (sSeq (sIf (bOr (bNot (bTru (eCallP 2 m_L_right_14 (aCons (eOp fIx (eVar 2) (eC (.int 0))) (aCons (eOp fIx (eVar 2) (eC (.int 1))) aNil))))) (bOr (bNot (bTru (eCallP 2 m_L_right_14 (aCons (eOp fIx (eVar 3) (eC (.int 0))) (aCons (eOp fIx (eVar 3) (eC (.int 1))) aNil))))) (bNot (bTru (eCallP 2 m_L_right_14 (aCons (eOp fIx (eVar 2) (eC (.int 0))) (aCons (eOp fIx (eVar 2) (eC (.int 1))) aNil)))))))
    (sRet (eC (.bool false)))
    sNext)
    (sSeq (sPar 4 5 (aCons (eCallP 2 m_straight (aCons (eOp fIx (eVar 2) (eC (.int 0))) (aCons (eOp fIx (eVar 2) (eC (.int 1))) aNil))) (aCons (eCallP 2 m_straight (aCons (eOp fIx (eVar 3) (eC (.int 0))) (aCons (eOp fIx (eVar 3) (eC (.int 1))) aNil))) aNil)))
    (sRet (eOp (opEq false) (eCallP 1 m_turned_back (aCons (eCallP 2 m_put (aCons (eVar 4) (aCons (eVar 5) aNil))) aNil)) (eCallP 2 m_L_of (aCons (eCallP 1 m_turned_back (aCons (eVar 5) aNil)) (aCons (eCallP 1 m_turned_back (aCons (eVar 4) aNil)) aNil))))))))
noncomputable def b_middle : MS :=
    (sSeq (sAsg 1 (eCallP 1 m_degree (aCons (eVar 0) aNil)))
    (sRet (eCallP 2 m_divided (aCons (eCallP 2 m_fraction_at (aCons (eVar 0) (aCons (eOp fSub (eVar 1) (eC (.int 1))) aNil))) (aCons (eCallP 2 m_multiplied (aCons (eTup (aCons (eVar 1) (aCons (eC (.int 1)) aNil))) (aCons (eCallP 1 m_lead (aCons (eVar 0) aNil)) aNil))) aNil)))))
@[irreducible] noncomputable def m_middle : List PyData → Rp := pureOf 2 b_middle
def c_ONCE : PyData := .tuple [.int 1, .int 1]
noncomputable def b_plain : MS :=
    (sSeq (sAsg 1 (eCallP 1 m_middle (aCons (eVar 0) aNil)))
    (sSeq (sAsg 2 (eCallP 2 m_put (aCons (eVar 0) (aCons (eCallP 2 m_straight (aCons (eC c_ONCE) (aCons (eCallP 2 m_multiplied (aCons (eTup (aCons (eC (.int (-1))) (aCons (eC (.int 1)) aNil))) (aCons (eVar 1) aNil))) aNil))) aNil))))
    (sSeq (sAsg 3 (eCallP 2 m_fraction_at (aCons (eVar 2) (aCons (eC (.int 0)) aNil))))
    (sSeq (sAsg 4 (eCallP 2 m_scaled (aCons (eCallP 2 m_minus (aCons (eVar 2) (aCons (eCallP 1 m_poly (aCons (eFrz (lDisp (aCons (eVar 3) aNil))) aNil)) aNil))) (aCons (eCallP 2 m_divided (aCons (eC c_ONCE) (aCons (eCallP 1 m_lead (aCons (eVar 0) aNil)) aNil))) aNil))))
    (sRet (eTup (aCons (eCallP 2 m_straight (aCons (eCallP 1 m_lead (aCons (eVar 0) aNil)) (aCons (eVar 3) aNil))) (aCons (eVar 4) (aCons (eCallP 2 m_straight (aCons (eC c_ONCE) (aCons (eVar 1) aNil))) aNil)))))))))
@[irreducible] noncomputable def m_plain : List PyData → Rp := pureOf 5 b_plain
noncomputable def b_L_any_fraction : MS :=
    (sRet (eCallP 2 m_L_fraction (aCons (eCallF 2 m_L_number (aCons (eVar 0) (aCons (eVar 1) aNil))) (aCons (eOp fAddA (eC (.int 1)) (eCallF 2 m_L_pick (aCons (eVar 0) (aCons (eOp fIx (eFrz (lDisp (aCons (eC (.int 1)) (aCons (eC (.int 1)) (aCons (eC (.int 3)) (aCons (eVar 1) aNil)))))) (eCallF 2 m_L_pick (aCons (eVar 0) (aCons (eC (.int 4)) aNil)))) aNil)))) aNil))))
@[irreducible] noncomputable def m_L_any_fraction : List PyData → Fl → Rf := flowOf 2 b_L_any_fraction
noncomputable def b_L_any_poly : MS :=
    (sSeq (sAsg 3 (if true = true then eFrz (lLc (mR1 (aCons (eVar 1) aNil)) (([(("_law_k" : Str), 5)] : List (Str × Nat)).map (·.2)) (gNameM 5) bYes (eOp fMulA (eCallF 2 m_L_number (aCons (eVar 0) (aCons (eVar 2) aNil))) (eCB cInt (aCons (eOp fGt (eCallF 2 m_L_pick (aCons (eVar 0) (aCons (eC (.int 4)) aNil))) (eC (.int 0))) aNil)))) else eOwn (lLc (mR1 (aCons (eVar 1) aNil)) (([(("_law_k" : Str), 5)] : List (Str × Nat)).map (·.2)) (gNameM 5) bYes (eOp fMulA (eCallF 2 m_L_number (aCons (eVar 0) (aCons (eVar 2) aNil))) (eCB cInt (aCons (eOp fGt (eCallF 2 m_L_pick (aCons (eVar 0) (aCons (eC (.int 4)) aNil))) (eC (.int 0))) aNil))))))
    (sSeq (sAsg 4 (eOp fIx (eFrz (lDisp (aCons (eC (.int 1)) (aCons (eOp fSub (eC (.int 0)) (eC (.int 1))) (aCons (eOp fAddA (eC (.int 1)) (eCallF 2 m_L_pick (aCons (eVar 0) (aCons (eVar 2) aNil)))) (aCons (eOp fSub (eOp fSub (eC (.int 0)) (eC (.int 1))) (eCallF 2 m_L_pick (aCons (eVar 0) (aCons (eVar 2) aNil)))) aNil)))))) (eCallF 2 m_L_pick (aCons (eVar 0) (aCons (eC (.int 4)) aNil)))))
    (sRet (eCallP 2 m_L_poly (aCons (eOp fAddA (eVar 3) (eFrz (lDisp (aCons (eVar 4) aNil)))) (aCons (eOp fAddA (eC (.int 1)) (eCallF 2 m_L_pick (aCons (eVar 0) (aCons (eOp fIx (eFrz (lDisp (aCons (eC (.int 1)) (aCons (eC (.int 1)) (aCons (eC (.int 2)) (aCons (eC (.int 6)) aNil)))))) (eCallF 2 m_L_pick (aCons (eVar 0) (aCons (eC (.int 4)) aNil)))) aNil)))) aNil))))))
@[irreducible] noncomputable def m_L_any_poly : List PyData → Fl → Rf := flowOf 6 b_L_any_poly
noncomputable def b_L_any_straight : MS :=
    (sSeq (sAsg 2 (eOp fIx (eFrz (lDisp (aCons (eTup (aCons (eC (.int 1)) (aCons (eC (.int 1)) aNil))) (aCons (eTup (aCons (eOp fSub (eC (.int 0)) (eC (.int 1))) (aCons (eC (.int 1)) aNil))) (aCons (eCallP 2 m_L_fraction (aCons (eOp fAddA (eC (.int 1)) (eCallF 2 m_L_pick (aCons (eVar 0) (aCons (eVar 1) aNil)))) (aCons (eOp fAddA (eC (.int 1)) (eCallF 2 m_L_pick (aCons (eVar 0) (aCons (eC (.int 3)) aNil)))) aNil))) aNil))))) (eCallF 2 m_L_pick (aCons (eVar 0) (aCons (eC (.int 3)) aNil)))))
    (sRet (eCallP 2 m_L_straight (aCons (eVar 2) (aCons (eCallF 2 m_L_any_fraction (aCons (eVar 0) (aCons (eVar 1) aNil))) aNil)))))
@[irreducible] noncomputable def m_L_any_straight : List PyData → Fl → Rf := flowOf 3 b_L_any_straight
noncomputable def b_L_at_2 : MS :=
    (sSeq (sIf (bTest (eOp fGe (eVar 1) (eCB cLen (aCons (eOp fIx (eVar 0) (eC (.int 0))) aNil))))
    (sRet (eTup (aCons (eC (.int 0)) (aCons (eC (.int 1)) aNil))))
    sNext)
    (sRet (eCallP 2 m_L_fraction (aCons (eOp fIx (eOp fIx (eVar 0) (eC (.int 0))) (eVar 1)) (aCons (eOp fIx (eVar 0) (eC (.int 1))) aNil)))))
@[irreducible] noncomputable def m_L_at_2 : List PyData → Rp := pureOf 2 b_L_at_2
noncomputable def b_L_divided : MS :=
    (sRet (eCallP 2 m_L_fraction (aCons (eOp fMulA (eOp fIx (eVar 0) (eC (.int 0))) (eOp fIx (eVar 1) (eC (.int 1)))) (aCons (eOp fMulA (eOp fIx (eVar 0) (eC (.int 1))) (eOp fIx (eVar 1) (eC (.int 0)))) aNil))))
@[irreducible] noncomputable def m_L_divided : List PyData → Rp := pureOf 2 b_L_divided
noncomputable def b_L_plain_told : MS :=
    (sSeq (sAsg 1 (eOp fSub (eCB cLen (aCons (eOp fIx (eVar 0) (eC (.int 0))) aNil)) (eC (.int 1))))
    (sSeq (sAsg 2 (eCallP 2 m_L_divided (aCons (eCallP 2 m_L_at_2 (aCons (eVar 0) (aCons (eOp fSub (eVar 1) (eC (.int 1))) aNil))) (aCons (eCallP 2 m_L_product (aCons (eTup (aCons (eVar 1) (aCons (eC (.int 1)) aNil))) (aCons (eCallP 2 m_L_at_2 (aCons (eVar 0) (aCons (eVar 1) aNil))) aNil))) aNil))))
    (sSeq (sAsg 3 (eCallP 2 m_L_straight (aCons (eTup (aCons (eC (.int 1)) (aCons (eC (.int 1)) aNil))) (aCons (eVar 2) aNil))))
    (sSeq (sAsg 4 (eCallP 2 m_L_of (aCons (eVar 0) (aCons (eCallP 1 m_L_turned_back (aCons (eVar 3) aNil)) aNil))))
    (sSeq (sAsg 5 (eCallP 2 m_L_at_2 (aCons (eVar 4) (aCons (eC (.int 0)) aNil))))
    (sSeq (sAsg 6 (eCallP 2 m_L_sum (aCons (eVar 4) (aCons (eCallP 2 m_L_poly (aCons (eFrz (lDisp (aCons (eOp fSub (eC (.int 0)) (eOp fIx (eVar 5) (eC (.int 0)))) aNil))) (aCons (eOp fIx (eVar 5) (eC (.int 1))) aNil))) aNil))))
    (sSeq (sAsg 7 (eCallP 2 m_L_times (aCons (eVar 6) (aCons (eCallP 2 m_L_poly (aCons (eFrz (lDisp (aCons (eOp fIx (eCallP 2 m_L_divided (aCons (eTup (aCons (eC (.int 1)) (aCons (eC (.int 1)) aNil))) (aCons (eCallP 2 m_L_at_2 (aCons (eVar 0) (aCons (eVar 1) aNil))) aNil))) (eC (.int 0))) aNil))) (aCons (eOp fIx (eCallP 2 m_L_divided (aCons (eTup (aCons (eC (.int 1)) (aCons (eC (.int 1)) aNil))) (aCons (eCallP 2 m_L_at_2 (aCons (eVar 0) (aCons (eVar 1) aNil))) aNil))) (eC (.int 1))) aNil))) aNil))))
    (sRet (eTup (aCons (eCallP 2 m_L_straight (aCons (eCallP 2 m_L_at_2 (aCons (eVar 0) (aCons (eVar 1) aNil))) (aCons (eVar 5) aNil))) (aCons (eVar 7) (aCons (eVar 3) aNil))))))))))))
@[irreducible] noncomputable def m_L_plain_told : List PyData → Rp := pureOf 8 b_L_plain_told
noncomputable def b_L_degree_drawn : MS :=
    (sSeq (sIf (bTest (eOp (opEq false) (eCallF 2 m_L_pick (aCons (eVar 0) (aCons (eC (.int 8)) aNil))) (eC (.int 0))))
    (sRet (eOp fAddA (eC (.int 8)) (eCallF 2 m_L_pick (aCons (eVar 0) (aCons (eC (.int 5)) aNil)))))
    sNext)
    (sRet (eOp fAddA (eC (.int 2)) (eCallF 2 m_L_pick (aCons (eVar 0) (aCons (eC (.int 5)) aNil))))))
@[irreducible] noncomputable def m_L_degree_drawn : List PyData → Fl → Rf := flowOf 1 b_L_degree_drawn
noncomputable def b_L_plain_one : MS :=
    (sSeq (sAsg 2 (eOp fAddA (eC (.int 1)) (eCB cInt (aCons (eOp (opEq false) (eCallF 2 m_L_pick (aCons (eVar 0) (aCons (eC (.int 3)) aNil))) (eC (.int 0))) aNil))))
    (sSeq (sAsg 3 (eCallF 3 m_L_any_poly (aCons (eVar 0) (aCons (eVar 1) (aCons (eC (.int 9)) aNil)))))
    (sSeq (sAsg 4 (if true = true then eFrz (lLc (mR1 (aCons (eVar 1) aNil)) (([(("_law_k" : Str), 5)] : List (Str × Nat)).map (·.2)) (gNameM 5) bYes (eOp fMulA (eOp fIx (eOp fIx (eVar 3) (eC (.int 0))) (eVar 5)) (eCB cInt (aCons (eAndV (eChain fLt fLt (eC (.int 0)) (eVar 5) (eOp fSub (eVar 1) (eC (.int 1)))) (eOp (opEq false) (eOp fMod (eOp fSub (eVar 1) (eVar 5)) (eVar 2)) (eC (.int 0)))) aNil)))) else eOwn (lLc (mR1 (aCons (eVar 1) aNil)) (([(("_law_k" : Str), 5)] : List (Str × Nat)).map (·.2)) (gNameM 5) bYes (eOp fMulA (eOp fIx (eOp fIx (eVar 3) (eC (.int 0))) (eVar 5)) (eCB cInt (aCons (eAndV (eChain fLt fLt (eC (.int 0)) (eVar 5) (eOp fSub (eVar 1) (eC (.int 1)))) (eOp (opEq false) (eOp fMod (eOp fSub (eVar 1) (eVar 5)) (eVar 2)) (eC (.int 0)))) aNil))))))
    (sRet (eCallP 2 m_L_poly (aCons (eOp fAddA (eVar 4) (eFrz (lDisp (aCons (eOp fIx (eVar 3) (eC (.int 1))) aNil)))) (aCons (eOp fIx (eVar 3) (eC (.int 1))) aNil)))))))
@[irreducible] noncomputable def m_L_plain_one : List PyData → Fl → Rf := flowOf 6 b_L_plain_one
noncomputable def b_L_short : MS :=
    (sRet (eCB cAll (aCons (eFrz (lLc (mAny (eVar 0)) (([(("_law_p" : Str), 1)] : List (Str × Nat)).map (·.2)) (gNameM 1) bYes (eOp fLt (eCB cMaxL (aCons (eOp fAddA (eFrz (lDisp (aCons (eOp fIx (eVar 1) (eC (.int 1))) aNil))) (eFrz (lLc (mAny (eOp fIx (eVar 1) (eC (.int 0)))) (([(("_law_top" : Str), 2)] : List (Str × Nat)).map (·.2)) (gNameM 2) bYes (eCB cAbs (aCons (eVar 2) aNil))))) aNil)) (eOp fPow (eC (.int 10)) (eC (.int 40)))))) aNil)))
@[irreducible] noncomputable def m_L_short : List PyData → Rp := pureOf 3 b_L_short
noncomputable def b_L_drawn_3 : MS :=
    (sSeq (sAsg 1 (eCallF 1 m_L_degree_drawn (aCons (eVar 0) aNil)))
    (sSeq (sIf (bTest (eOp (opEq false) (eCallF 2 m_L_pick (aCons (eVar 0) (aCons (eC (.int 2)) aNil))) (eC (.int 0))))
    (sRet (eCallF 3 m_L_any_poly (aCons (eVar 0) (aCons (eVar 1) (aCons (eOp fIx (eFrz (lDisp (aCons (eC (.int 9)) (aCons (eOp fSub (eOp fPow (eC (.int 10)) (eC (.int 39))) (eC (.int 1))) aNil)))) (eCB cInt (aCons (eOp (opEq false) (eCallF 2 m_L_pick (aCons (eVar 0) (aCons (eC (.int 8)) aNil))) (eC (.int 0))) aNil))) aNil)))))
    sNext)
    (sSeq (sAsg 2 (eCallF 2 m_L_plain_one (aCons (eVar 0) (aCons (eVar 1) aNil))))
    (sRet (eCallP 2 m_L_of (aCons (eCallP 2 m_L_of (aCons (eCallF 2 m_L_any_straight (aCons (eVar 0) (aCons (eC (.int 3)) aNil))) (aCons (eVar 2) aNil))) (aCons (eCallF 2 m_L_any_straight (aCons (eVar 0) (aCons (eC (.int 3)) aNil))) aNil)))))))
@[irreducible] noncomputable def m_L_drawn_3 : List PyData → Fl → Rf := flowOf 3 b_L_drawn_3
noncomputable def b_L_right_15 : MS :=
    (sSeq (sAsg 1 (eCallP 1 m_plain (aCons (eVar 0) aNil)))
    (sSeq (sIf (bNot (bTru (eCallP 2 (m_L_alike_3 8) (aCons (eVar 1) (aCons (eCallP 1 m_L_plain_told (aCons (eVar 0) aNil)) aNil)))))
    (sRet (eC (.bool false)))
    sNext)
    (sSeq (sAsgG (eVar 1) (gTupM 3 (gConsM (gNameM 2) (gConsM (gNameM 3) (gConsM (gNameM 4) gNilM)))))
    (sSeq (sAsg 5 (eOp fSub (eCB cLen (aCons (eOp fIx (eVar 0) (eC (.int 0))) aNil)) (eC (.int 1))))
    (sSeq (sIf (bOr (bTest (eOp (opEq true) (eCallP 2 m_L_of (aCons (eCallP 2 m_L_of (aCons (eVar 2) (aCons (eVar 3) aNil))) (aCons (eVar 4) aNil))) (eVar 0))) (bOr (bTest (eOp (opEq true) (eCallP 2 m_L_at_2 (aCons (eVar 4) (aCons (eC (.int 1)) aNil))) (eTup (aCons (eC (.int 1)) (aCons (eC (.int 1)) aNil))))) (bTest (eOp (opEq true) (eCallP 2 m_L_at_2 (aCons (eVar 3) (aCons (eVar 5) aNil))) (eTup (aCons (eC (.int 1)) (aCons (eC (.int 1)) aNil)))))))
    (sRet (eC (.bool false)))
    sNext)
    (sSeq (sIf (bOr (bTest (eOp (opEq true) (eCallP 2 m_L_at_2 (aCons (eVar 3) (aCons (eC (.int 0)) aNil))) (eTup (aCons (eC (.int 0)) (aCons (eC (.int 1)) aNil))))) (bTest (eOp (opEq true) (eCallP 2 m_L_at_2 (aCons (eVar 3) (aCons (eOp fSub (eVar 5) (eC (.int 1))) aNil))) (eTup (aCons (eC (.int 0)) (aCons (eC (.int 1)) aNil))))))
    (sRet (eC (.bool false)))
    sNext)
    (sRet (eOp (opEq false) (eCallP 1 m_plain (aCons (eVar 3) aNil)) (eTup (aCons (eTup (aCons (eTup (aCons (eC (.int 0)) (aCons (eC (.int 1)) aNil))) (aCons (eC (.int 1)) aNil))) (aCons (eVar 3) (aCons (eTup (aCons (eTup (aCons (eC (.int 0)) (aCons (eC (.int 1)) aNil))) (aCons (eC (.int 1)) aNil))) aNil))))))))))))
@[irreducible] noncomputable def m_L_right_15 : List PyData → Rp := pureOf 6 b_L_right_15
noncomputable def b_law_k23 : MS :=
    (sSeq (sPar 2 3 (aCons (eCallF 1 m_L_drawn_3 (aCons (eVar 1) aNil)) (aCons (eCallF 1 m_L_drawn_3 (aCons (eVar 1) aNil)) aNil)))
    (sSeq (sAsg 4 (if true = true then eFrz (lLc (mAny (eTup (aCons (eVar 2) (aCons (eVar 3) (aCons (eVar 2) aNil))))) (([(("_law_f" : Str), 5)] : List (Str × Nat)).map (·.2)) (gNameM 5) (bTru (eCallP 1 m_L_short (aCons (eFrz (lDisp (aCons (eVar 5) aNil))) aNil))) (eVar 5)) else eOwn (lLc (mAny (eTup (aCons (eVar 2) (aCons (eVar 3) (aCons (eVar 2) aNil))))) (([(("_law_f" : Str), 5)] : List (Str × Nat)).map (·.2)) (gNameM 5) (bTru (eCallP 1 m_L_short (aCons (eFrz (lDisp (aCons (eVar 5) aNil))) aNil))) (eVar 5))))
    (sRet (eCB cAll (aCons (eFrz (lLc (mAny (eVar 4)) (([(("_law_f" : Str), 5)] : List (Str × Nat)).map (·.2)) (gNameM 5) bYes (eCallP 1 m_L_right_15 (aCons (eVar 5) aNil)))) aNil)))))
noncomputable def b_leaves : MS :=
    (sSeq (sAsgG (eCallP 1 m_plain (aCons (eVar 0) aNil)) (gTupM 3 (gConsM (gNameM 1) (gConsM (gNameM 2) (gConsM (gNameM 3) gNilM)))))
    (sSeq (sAsg 4 (eOwn (lDisp (aCons (eC c_LETTER) aNil))))
    (sSeq (sIf (bTru (eCB cAll (aCons (eFrz (lLc (mEnum (aCons (eOp fIx (eVar 2) (eC (.int 0))) aNil)) (([(("k" : Str), 5), (("top" : Str), 6)] : List (Str × Nat)).map (·.2)) (gTupM 2 (gConsM (gNameM 5) (gConsM (gNameM 6) gNilM))) bYes (eOrV (eOp (opEq false) (eOp fMod (eVar 5) (eC (.int 2))) (eC (.int 0))) (eOp (opEq false) (eVar 6) (eC (.int 0)))))) aNil)))
    (sDrop (eMethL mAppend (eVar 4) (aCons (eCallP 2 m_straight (aCons (eTup (aCons (eC (.int (-1))) (aCons (eC (.int 1)) aNil))) (aCons (eCallP 2 m_multiplied (aCons (eTup (aCons (eC (.int (-2))) (aCons (eC (.int 1)) aNil))) (aCons (eCallP 2 m_fraction_at (aCons (eVar 3) (aCons (eC (.int 0)) aNil))) aNil))) aNil))) aNil)))
    sNext)
    (sRet (eVar 4)))))
@[irreducible] noncomputable def m_leaves : List PyData → Rp := pureOf 7 b_leaves
noncomputable def b_L_alike_2 (mm : List PyData → Rp) : MS :=
    (sSeq (sIf (bTru (eIsiT (eVar 1) ["list", "tuple"]))
    (sSeq (sIf (bTest (eOp (opEq true) (eIsi (eVar 0) "list") (eIsi (eVar 1) "list")))
    (sRet (eC (.bool false)))
    sNext)
    (sSeq (sIf (bTest (eOp (opEq true) (eIsi (eVar 0) "tuple") (eIsi (eVar 1) "tuple")))
    (sRet (eC (.bool false)))
    sNext)
    (sSeq (sIf (bTest (eOp (opEq true) (eCB cLen (aCons (eVar 0) aNil)) (eCB cLen (aCons (eVar 1) aNil))))
    (sRet (eC (.bool false)))
    sNext)
    (sRet (eCB cAll (aCons (eFrz (lLc (mR1 (aCons (eCB cLen (aCons (eVar 1) aNil)) aNil)) (([(("_law_k" : Str), 2)] : List (Str × Nat)).map (·.2)) (gNameM 2) bYes (eCallP 2 mm (aCons (eOp fIx (eVar 0) (eVar 2)) (aCons (eOp fIx (eVar 1) (eVar 2)) aNil))))) aNil))))))
    sNext)
    (sRet (eAndV (eOp (opEq false) (eIsi (eVar 0) "bool") (eIsi (eVar 1) "bool")) (eOp (opEq false) (eVar 0) (eVar 1)))))
noncomputable def r_L_alike_2 : Nat → List PyData → Rp
  | 0 => fun _ => .no
  | n + 1 => pureOf 3 (b_L_alike_2 (r_L_alike_2 n))
@[irreducible] noncomputable def m_L_alike_2 (n : Nat) : List PyData → Rp := r_L_alike_2 n
theorem z_L_alike_2 : m_L_alike_2 0 = fun _ => .no := by unfold m_L_alike_2; rfl
theorem s_L_alike_2 {n : Nat} : m_L_alike_2 (n + 1) = pureOf 3 (b_L_alike_2 (m_L_alike_2 n)) := by unfold m_L_alike_2; rfl
noncomputable def b_L_drawn_4 : MS :=
    (sSeq (sAsg 1 (eCallF 1 m_L_degree_drawn (aCons (eVar 0) aNil)))
    (sSeq (sIf (bTest (eOp (opEq false) (eCallF 2 m_L_pick (aCons (eVar 0) (aCons (eC (.int 3)) aNil))) (eC (.int 0))))
    (sRet (eCallF 3 m_L_any_poly (aCons (eVar 0) (aCons (eVar 1) (aCons (eOp fIx (eFrz (lDisp (aCons (eC (.int 9)) (aCons (eOp fSub (eOp fPow (eC (.int 10)) (eC (.int 39))) (eC (.int 1))) aNil)))) (eCB cInt (aCons (eOp (opEq false) (eCallF 2 m_L_pick (aCons (eVar 0) (aCons (eC (.int 8)) aNil))) (eC (.int 0))) aNil))) aNil)))))
    sNext)
    (sSeq (sAsg 2 (eCallF 2 m_L_plain_one (aCons (eVar 0) (aCons (eVar 1) aNil))))
    (sRet (eCallP 2 m_L_of (aCons (eCallP 2 m_L_of (aCons (eCallF 2 m_L_any_straight (aCons (eVar 0) (aCons (eC (.int 3)) aNil))) (aCons (eVar 2) aNil))) (aCons (eCallF 2 m_L_any_straight (aCons (eVar 0) (aCons (eC (.int 3)) aNil))) aNil)))))))
@[irreducible] noncomputable def m_L_drawn_4 : List PyData → Fl → Rf := flowOf 3 b_L_drawn_4
noncomputable def b_L_due_2 : MS :=
    (sSeq (sAsg 1 (eOp fSub (eCB cLen (aCons (eOp fIx (eVar 0) (eC (.int 0))) aNil)) (eC (.int 1))))
    (sSeq (sAsg 2 (eCallP 2 m_L_divided (aCons (eCallP 2 m_L_product (aCons (eTup (aCons (eOp fSub (eC (.int 0)) (eC (.int 2))) (aCons (eC (.int 1)) aNil))) (aCons (eCallP 2 m_L_at_2 (aCons (eVar 0) (aCons (eOp fSub (eVar 1) (eC (.int 1))) aNil))) aNil))) (aCons (eCallP 2 m_L_product (aCons (eTup (aCons (eVar 1) (aCons (eC (.int 1)) aNil))) (aCons (eCallP 2 m_L_at_2 (aCons (eVar 0) (aCons (eVar 1) aNil))) aNil))) aNil))))
    (sSeq (sAsg 3 (eCallP 2 m_L_straight (aCons (eTup (aCons (eOp fSub (eC (.int 0)) (eC (.int 1))) (aCons (eC (.int 1)) aNil))) (aCons (eVar 2) aNil))))
    (sRet (eOp fAddA (eFrz (lDisp (aCons (eTup (aCons (eTup (aCons (eC (.int 0)) (aCons (eC (.int 1)) aNil))) (aCons (eC (.int 1)) aNil))) aNil))) (eOp fMulA (eFrz (lDisp (aCons (eVar 3) aNil))) (eCB cInt (aCons (eOp (opEq false) (eCallP 2 m_L_of (aCons (eVar 0) (aCons (eVar 3) aNil))) (eVar 0)) aNil))))))))
@[irreducible] noncomputable def m_L_due_2 : List PyData → Rp := pureOf 4 b_L_due_2
noncomputable def b_L_right_16 : MS :=
    (sSeq (sAsg 1 (eCallP 1 m_L_due_2 (aCons (eVar 0) aNil)))
    (sSeq (sAsg 2 (eCallO 1 m_leaves (aCons (eVar 0) aNil)))
    (sSeq (sIf (bOr (bNot (bTru (eCallP 2 (m_L_alike_2 8) (aCons (eVar 2) (aCons (eVar 1) aNil))))) (bTru (eCB cAny (aCons (eFrz (lLc (mAny (eVar 2)) (([(("_law_l" : Str), 3)] : List (Str × Nat)).map (·.2)) (gNameM 3) bYes (eOp (opEq true) (eCallP 2 m_L_of (aCons (eVar 0) (aCons (eVar 3) aNil))) (eVar 0)))) aNil))))
    (sRet (eC (.bool false)))
    sNext)
    (sSeq (sDrop (eMethL mPop (eVar 2) aNil))
    (sRet (eCallP 2 (m_L_alike_2 8) (aCons (eCallP 1 m_leaves (aCons (eVar 0) aNil)) (aCons (eVar 1) aNil))))))))
@[irreducible] noncomputable def m_L_right_16 : List PyData → Rp := pureOf 4 b_L_right_16
noncomputable def b_law_k24 : MS :=
    (sSeq (sPar 2 3 (aCons (eCallF 1 m_L_drawn_4 (aCons (eVar 1) aNil)) (aCons (eCallF 1 m_L_drawn_4 (aCons (eVar 1) aNil)) aNil)))
    (sSeq (sAsg 4 (if true = true then eFrz (lLc (mAny (eTup (aCons (eVar 2) (aCons (eVar 3) (aCons (eVar 2) aNil))))) (([(("_law_f" : Str), 5)] : List (Str × Nat)).map (·.2)) (gNameM 5) (bTru (eCallP 1 m_L_short (aCons (eFrz (lDisp (aCons (eVar 5) aNil))) aNil))) (eVar 5)) else eOwn (lLc (mAny (eTup (aCons (eVar 2) (aCons (eVar 3) (aCons (eVar 2) aNil))))) (([(("_law_f" : Str), 5)] : List (Str × Nat)).map (·.2)) (gNameM 5) (bTru (eCallP 1 m_L_short (aCons (eFrz (lDisp (aCons (eVar 5) aNil))) aNil))) (eVar 5))))
    (sRet (eCB cAll (aCons (eFrz (lLc (mAny (eVar 4)) (([(("_law_f" : Str), 5)] : List (Str × Nat)).map (·.2)) (gNameM 5) bYes (eCallP 1 m_L_right_16 (aCons (eVar 5) aNil)))) aNil)))))
noncomputable def b_is_stretched : MS :=
    (sSeq (sAsg 3 (eCallP 1 m_degree (aCons (eVar 0) aNil)))
    (sSeq (sFor (mR1 (aCons (eVar 3) aNil)) (gNameM 4)
    (sSeq (sAsg 5 (eTup (aCons (eCallP 2 m_raised (aCons (eOp fIx (eVar 2) (eC (.int 0))) (aCons (eOp fSub (eVar 3) (eVar 4)) aNil))) (aCons (eCallP 2 m_raised (aCons (eOp fIx (eVar 2) (eC (.int 1))) (aCons (eOp fSub (eVar 3) (eVar 4)) aNil))) aNil))))
    (sIf (bTest (eOp (opEq true) (eCallP 2 m_fraction_at (aCons (eVar 0) (aCons (eVar 4) aNil))) (eCallP 2 m_multiplied (aCons (eCallP 2 m_fraction_at (aCons (eVar 1) (aCons (eVar 4) aNil))) (aCons (eVar 5) aNil)))))
    (sRet (eC (.bool false)))
    sNext)))
    (sRet (eC (.bool true)))))
@[irreducible] noncomputable def m_is_stretched : List PyData → Rp := pureOf 6 b_is_stretched
noncomputable def b_stretch : MS :=
    (sSeq (sAsg 2 (eCallP 1 m_degree (aCons (eVar 0) aNil)))
    (sSeq (sAsg 3 (if true = true then eFrz (lLc (mR1 (aCons (eVar 2) aNil)) (([(("k" : Str), 6)] : List (Str × Nat)).map (·.2)) (gNameM 6) (bTest (eOp (opEq true) (eOp fIx (eCallP 2 m_fraction_at (aCons (eVar 0) (aCons (eVar 6) aNil))) (eC (.int 0))) (eC (.int 0)))) (eVar 6)) else eOwn (lLc (mR1 (aCons (eVar 2) aNil)) (([(("k" : Str), 6)] : List (Str × Nat)).map (·.2)) (gNameM 6) (bTest (eOp (opEq true) (eOp fIx (eCallP 2 m_fraction_at (aCons (eVar 0) (aCons (eVar 6) aNil))) (eC (.int 0))) (eC (.int 0)))) (eVar 6))))
    (sSeq (sAsg 4 (eFrz (lDisp (aCons (eC c_ONCE) aNil))))
    (sSeq (sIf (bTest (eOp fGt (eCB cLen (aCons (eVar 3) aNil)) (eC (.int 0))))
    (sSeq (sIf (bTest (eOp (opEq false) (eOp fIx (eCallP 2 m_fraction_at (aCons (eVar 1) (aCons (eOp fIx (eVar 3) (eC (.int (-1)))) aNil))) (eC (.int 0))) (eC (.int 0))))
    (sRet (eC .none))
    sNext)
    (sAsg 4 (eCallP 2 m_roots (aCons (eCallP 2 m_divided (aCons (eCallP 2 m_fraction_at (aCons (eVar 0) (aCons (eOp fIx (eVar 3) (eC (.int (-1)))) aNil))) (aCons (eCallP 2 m_fraction_at (aCons (eVar 1) (aCons (eOp fIx (eVar 3) (eC (.int (-1)))) aNil))) aNil))) (aCons (eOp fSub (eVar 2) (eOp fIx (eVar 3) (eC (.int (-1))))) aNil)))))
    sNext)
    (sSeq (sFor (mAny (eVar 4)) (gNameM 5)
    (sIf (bTru (eCallP 3 m_is_stretched (aCons (eVar 0) (aCons (eVar 1) (aCons (eVar 5) aNil)))))
    (sRet (eVar 5))
    sNext))
    (sRet (eC .none)))))))
@[irreducible] noncomputable def m_stretch : List PyData → Rp := pureOf 7 b_stretch
noncomputable def b_alike : MS :=
    (sSeq (sAsg 2 (eCallP 1 m_degree (aCons (eVar 0) aNil)))
    (sSeq (sIf (bTest (eOp (opEq true) (eCallP 1 m_degree (aCons (eVar 1) aNil)) (eVar 2)))
    (sRet (eC .none))
    sNext)
    (sSeq (sAsgG (eCallP 1 m_plain (aCons (eVar 0) aNil)) (gTupM 3 (gConsM (gNameM 3) (gConsM (gNameM 4) (gConsM (gNameM 5) gNilM)))))
    (sSeq (sAsgG (eCallP 1 m_plain (aCons (eVar 1) aNil)) (gTupM 3 (gConsM (gNameM 6) (gConsM (gNameM 7) (gConsM (gNameM 8) gNilM)))))
    (sSeq (sAsg 9 (eCallP 2 m_stretch (aCons (eVar 4) (aCons (eVar 7) aNil))))
    (sSeq (sIf (bTest (eOp (fIsN false) (eVar 9) (eC .none)))
    (sRet (eC .none))
    sNext)
    (sSeq (sAsg 10 (eCallP 2 m_straight (aCons (eTup (aCons (eCallP 2 m_raised (aCons (eOp fIx (eVar 9) (eC (.int 1))) (aCons (eVar 2) aNil))) (aCons (eCallP 2 m_raised (aCons (eOp fIx (eVar 9) (eC (.int 0))) (aCons (eVar 2) aNil))) aNil))) (aCons (eTup (aCons (eC (.int 0)) (aCons (eC (.int 1)) aNil))) aNil))))
    (sSeq (sIf (bAnd (bTest (eOp fLt (eOp fIx (eVar 9) (eC (.int 0))) (eC (.int 0)))) (bTest (eOp (opEq false) (eOp fMod (eVar 2) (eC (.int 2))) (eC (.int 1)))))
    (sAsg 10 (eCallP 2 m_straight (aCons (eTup (aCons (eOp fSub (eC (.int 0)) (eCallP 2 m_raised (aCons (eOp fIx (eVar 9) (eC (.int 1))) (aCons (eVar 2) aNil)))) (aCons (eOp fSub (eC (.int 0)) (eCallP 2 m_raised (aCons (eOp fIx (eVar 9) (eC (.int 0))) (aCons (eVar 2) aNil)))) aNil))) (aCons (eTup (aCons (eC (.int 0)) (aCons (eC (.int 1)) aNil))) aNil))))
    sNext)
    (sSeq (sAsg 11 (eCallP 2 m_put (aCons (eCallP 2 m_put (aCons (eVar 6) (aCons (eVar 10) aNil))) (aCons (eCallP 1 m_turned_back (aCons (eVar 3) aNil)) aNil))))
    (sRet (eTup (aCons (eVar 11) (aCons (eCallP 2 m_put (aCons (eCallP 2 m_put (aCons (eCallP 1 m_turned_back (aCons (eVar 5) aNil)) (aCons (eCallP 2 m_straight (aCons (eVar 9) (aCons (eTup (aCons (eC (.int 0)) (aCons (eC (.int 1)) aNil))) aNil))) aNil))) (aCons (eVar 8) aNil))) aNil)))))))))))))
@[irreducible] noncomputable def m_alike : List PyData → Rp := pureOf 12 b_alike
noncomputable def b_L_letter_2 : MS :=
    (sRet (eCallP 2 m_L_poly (aCons (eOp fAddA (eOp fMulA (eFrz (lDisp (aCons (eC (.int 0)) aNil))) (eVar 0)) (eFrz (lDisp (aCons (eC (.int 1)) aNil)))) (aCons (eC (.int 1)) aNil))))
@[irreducible] noncomputable def m_L_letter_2 : List PyData → Rp := pureOf 1 b_L_letter_2
noncomputable def b_L_stretched : MS :=
    (sSeq (sAsg 2 (eOp fSub (eCB cLen (aCons (eOp fIx (eVar 0) (eC (.int 0))) aNil)) (eC (.int 1))))
    (sSeq (sAsg 3 (eCallP 2 m_L_of (aCons (eVar 0) (aCons (eCallP 2 m_L_straight (aCons (eVar 1) (aCons (eTup (aCons (eC (.int 0)) (aCons (eC (.int 1)) aNil))) aNil))) aNil))))
    (sSeq (sAsg 4 (eCallP 2 m_L_fraction (aCons (eCallP 2 m_L_grown (aCons (eOp fIx (eVar 1) (eC (.int 1))) (aCons (eVar 2) aNil))) (aCons (eCallP 2 m_L_grown (aCons (eOp fIx (eVar 1) (eC (.int 0))) (aCons (eVar 2) aNil))) aNil))))
    (sRet (eCallP 2 m_L_times (aCons (eVar 3) (aCons (eCallP 2 m_L_poly (aCons (eFrz (lDisp (aCons (eOp fIx (eVar 4) (eC (.int 0))) aNil))) (aCons (eOp fIx (eVar 4) (eC (.int 1))) aNil))) aNil)))))))
@[irreducible] noncomputable def m_L_stretched : List PyData → Rp := pureOf 5 b_L_stretched
noncomputable def b_L_stretch : MS :=
    (sSeq (sAsg 2 (eOp fSub (eCB cLen (aCons (eOp fIx (eVar 0) (eC (.int 0))) aNil)) (eC (.int 1))))
    (sSeq (sAsg 3 (if true = true then eFrz (lLc (mR1 (aCons (eVar 2) aNil)) (([(("_law_k" : Str), 5)] : List (Str × Nat)).map (·.2)) (gNameM 5) (bTest (eOp (opEq true) (eOp fIx (eCallP 2 m_L_at_2 (aCons (eVar 0) (aCons (eVar 5) aNil))) (eC (.int 0))) (eC (.int 0)))) (eVar 5)) else eOwn (lLc (mR1 (aCons (eVar 2) aNil)) (([(("_law_k" : Str), 5)] : List (Str × Nat)).map (·.2)) (gNameM 5) (bTest (eOp (opEq true) (eOp fIx (eCallP 2 m_L_at_2 (aCons (eVar 0) (aCons (eVar 5) aNil))) (eC (.int 0))) (eC (.int 0)))) (eVar 5))))
    (sSeq (sAsg 4 (eFrz (lDisp (aCons (eTup (aCons (eC (.int 1)) (aCons (eC (.int 1)) aNil))) aNil))))
    (sSeq (sIf (bTest (eOp fGt (eCB cLen (aCons (eVar 3) aNil)) (eC (.int 0))))
    (sSeq (sIf (bTest (eOp (opEq false) (eOp fIx (eCallP 2 m_L_at_2 (aCons (eVar 1) (aCons (eOp fIx (eVar 3) (eC (.int 0))) aNil))) (eC (.int 0))) (eC (.int 0))))
    (sRet (eC (.bool false)))
    sNext)
    (sAsg 4 (eCallP 2 m_L_roots (aCons (eCallP 2 m_L_divided (aCons (eCallP 2 m_L_at_2 (aCons (eVar 0) (aCons (eOp fIx (eVar 3) (eC (.int 0))) aNil))) (aCons (eCallP 2 m_L_at_2 (aCons (eVar 1) (aCons (eOp fIx (eVar 3) (eC (.int 0))) aNil))) aNil))) (aCons (eOp fSub (eVar 2) (eOp fIx (eVar 3) (eC (.int 0)))) aNil)))))
    sNext)
    (sRet (eCB cAny (aCons (eFrz (lLc (mAny (eVar 4)) (([(("_law_w" : Str), 6)] : List (Str × Nat)).map (·.2)) (gNameM 6) bYes (eOp (opEq false) (eCallP 2 m_L_stretched (aCons (eVar 0) (aCons (eVar 6) aNil))) (eVar 1)))) aNil)))))))
@[irreducible] noncomputable def m_L_stretch : List PyData → Rp := pureOf 7 b_L_stretch
noncomputable def b_L_is_alike : MS :=
    (sRet (eAndV (eOp (opEq false) (eCB cLen (aCons (eOp fIx (eVar 0) (eC (.int 0))) aNil)) (eCB cLen (aCons (eOp fIx (eVar 1) (eC (.int 0))) aNil))) (eCallP 2 m_L_stretch (aCons (eOp fIx (eCallP 1 m_L_plain_told (aCons (eVar 0) aNil)) (eC (.int 1))) (aCons (eOp fIx (eCallP 1 m_L_plain_told (aCons (eVar 1) aNil)) (eC (.int 1))) aNil)))))
@[irreducible] noncomputable def m_L_is_alike : List PyData → Rp := pureOf 2 b_L_is_alike
noncomputable def b_L_is_straight : MS :=
    (sRet (eAndV (eIsi (eVar 0) "tuple") (eAndV (eOp (opEq false) (eCB cLen (aCons (eOp fIx (eVar 0) (eC (.int 0))) aNil)) (eC (.int 2))) (eOp (opEq false) (eCallP 2 m_L_poly (aCons (eOp fIx (eVar 0) (eC (.int 0))) (aCons (eOp fIx (eVar 0) (eC (.int 1))) aNil))) (eVar 0)))))
@[irreducible] noncomputable def m_L_is_straight : List PyData → Rp := pureOf 1 b_L_is_straight
noncomputable def b_L_dressed : MS :=
    (sRet (eCallP 2 m_L_of (aCons (eCallP 2 m_L_of (aCons (eCallF 2 m_L_any_straight (aCons (eVar 0) (aCons (eC (.int 3)) aNil))) (aCons (eVar 1) aNil))) (aCons (eCallF 2 m_L_any_straight (aCons (eVar 0) (aCons (eC (.int 3)) aNil))) aNil))))
@[irreducible] noncomputable def m_L_dressed : List PyData → Fl → Rf := flowOf 2 b_L_dressed
noncomputable def b_L_second : MS :=
    (sSeq (sAsg 3 (eCallF 2 m_L_pick (aCons (eVar 0) (aCons (eC (.int 6)) aNil))))
    (sSeq (sIf (bTest (eOp (opEq false) (eVar 3) (eC (.int 0))))
    (sRet (eCallF 3 m_L_any_poly (aCons (eVar 0) (aCons (eVar 2) (aCons (eC (.int 9)) aNil)))))
    sNext)
    (sSeq (sIf (bTest (eOp (opEq false) (eVar 3) (eC (.int 1))))
    (sRet (eCallF 3 m_L_any_poly (aCons (eVar 0) (aCons (eOp fIx (eFrz (lDisp (aCons (eC (.int 2)) (aCons (eCB cMin2 (aCons (eOp fAddA (eVar 2) (eC (.int 1))) (aCons (eC (.int 12)) aNil))) aNil)))) (eCallF 2 m_L_pick (aCons (eVar 0) (aCons (eC (.int 2)) aNil)))) (aCons (eC (.int 5)) aNil)))))
    sNext)
    (sSeq (sAsg 4 (eCallF 2 m_L_any_fraction (aCons (eVar 0) (aCons (eC (.int 3)) aNil))))
    (sSeq (sAsg 5 (eCallP 2 m_L_stretched (aCons (eVar 1) (aCons (eOp fIx (eFrz (lDisp (aCons (eVar 4) (aCons (eTup (aCons (eOp fSub (eC (.int 0)) (eC (.int 1))) (aCons (eC (.int 1)) aNil))) aNil)))) (eCB cInt (aCons (eOp (opEq false) (eOp fIx (eVar 4) (eC (.int 0))) (eC (.int 0))) aNil))) aNil))))
    (sSeq (sIf (bAnd (bTest (eOp (opEq false) (eVar 3) (eC (.int 2)))) (bTest (eOp fGt (eVar 2) (eC (.int 2)))))
    (sSeq (sAsg 6 (eOp fAddA (eC (.int 1)) (eCallF 2 m_L_pick (aCons (eVar 0) (aCons (eOp fSub (eVar 2) (eC (.int 2))) aNil)))))
    (sAsg 5 (eCallP 2 m_L_sum (aCons (eVar 5) (aCons (eCallP 2 m_L_times (aCons (eCallP 2 m_L_poly (aCons (eFrz (lDisp (aCons (eC (.int 1)) aNil))) (aCons (eOp fIx (eVar 5) (eC (.int 1))) aNil))) (aCons (eCallP 1 m_L_letter_2 (aCons (eVar 6) aNil)) aNil))) aNil)))))
    sNext)
    (sRet (eCallF 2 m_L_dressed (aCons (eVar 0) (aCons (eVar 5) aNil))))))))))
@[irreducible] noncomputable def m_L_second : List PyData → Fl → Rf := flowOf 7 b_L_second
noncomputable def b_L_right_17 : MS :=
    (sSeq (sAsg 2 (eCallP 2 m_alike (aCons (eVar 0) (aCons (eVar 1) aNil))))
    (sSeq (sIf (bNot (bTru (eCallP 2 m_L_is_alike (aCons (eVar 0) (aCons (eVar 1) aNil)))))
    (sRet (eOp (fIsN false) (eVar 2) (eC .none)))
    sNext)
    (sSeq (sIf (bOr (bNot (bTru (eIsi (eVar 2) "tuple"))) (bOr (bTest (eOp (opEq true) (eCB cLen (aCons (eVar 2) aNil)) (eC (.int 2)))) (bNot (bTru (eCB cAll (aCons (eFrz (lLc (mAny (eVar 2)) (([(("_law_l" : Str), 3)] : List (Str × Nat)).map (·.2)) (gNameM 3) bYes (eCallP 1 m_L_is_straight (aCons (eVar 3) aNil)))) aNil))))))
    (sRet (eC (.bool false)))
    sNext)
    (sRet (eOp (opEq false) (eCallP 2 m_L_of (aCons (eCallP 2 m_L_of (aCons (eOp fIx (eVar 2) (eC (.int 0))) (aCons (eVar 0) aNil))) (aCons (eOp fIx (eVar 2) (eC (.int 1))) aNil))) (eVar 1))))))
@[irreducible] noncomputable def m_L_right_17 : List PyData → Rp := pureOf 4 b_L_right_17
noncomputable def b_law_k25 : MS :=
    (sSeq (sAsg 2 (eCallF 1 m_L_degree_drawn (aCons (eVar 1) aNil)))
    (sSeq (sAsg 3 (eCallF 2 m_L_plain_one (aCons (eVar 1) (aCons (eVar 2) aNil))))
    (sSeq (sAsg 4 (eCallF 2 m_L_dressed (aCons (eVar 1) (aCons (eVar 3) aNil))))
    (sSeq (sAsg 5 (eCallF 3 m_L_second (aCons (eVar 1) (aCons (eVar 3) (aCons (eVar 2) aNil)))))
    (sSeq (sIf (bTest (eOp (opEq false) (eCallF 2 m_L_pick (aCons (eVar 1) (aCons (eC (.int 8)) aNil))) (eC (.int 0))))
    (sSeq (sAsg 4 (eCallF 3 m_L_any_poly (aCons (eVar 1) (aCons (eVar 2) (aCons (eOp fPow (eC (.int 10)) (eC (.int 18))) aNil)))))
    (sAsg 5 (eOp fIx (eFrz (lDisp (aCons (eCallF 2 m_L_dressed (aCons (eVar 1) (aCons (eVar 4) aNil))) (aCons (eCallF 3 m_L_any_poly (aCons (eVar 1) (aCons (eVar 2) (aCons (eOp fPow (eC (.int 10)) (eC (.int 18))) aNil)))) aNil)))) (eCB cInt (aCons (eOp (opEq false) (eCallF 2 m_L_pick (aCons (eVar 1) (aCons (eC (.int 4)) aNil))) (eC (.int 0))) aNil)))))
    sNext)
    (sSeq (sIf (bNot (bTru (eCallP 1 m_L_short (aCons (eFrz (lDisp (aCons (eVar 4) (aCons (eVar 5) aNil)))) aNil))))
    (sRet (eC (.bool true)))
    sNext)
    (sRet (eAndV (eCallP 2 m_L_right_17 (aCons (eVar 4) (aCons (eVar 5) aNil))) (eAndV (eCallP 2 m_L_right_17 (aCons (eVar 5) (aCons (eVar 4) aNil))) (eAndV (eCallP 2 m_L_right_17 (aCons (eVar 4) (aCons (eVar 4) aNil))) (eCallP 2 m_L_right_17 (aCons (eVar 4) (aCons (eVar 5) aNil)))))))))))))
noncomputable def b_one_power : MS :=
    (sRet (eCallP 1 m_poly (aCons (eOp fAddA (eOp fMulA (eFrz (lDisp (aCons (eTup (aCons (eC (.int 0)) (aCons (eC (.int 1)) aNil))) aNil))) (eVar 1)) (eFrz (lDisp (aCons (eVar 0) aNil)))) aNil)))
@[irreducible] noncomputable def m_one_power : List PyData → Rp := pureOf 2 b_one_power
noncomputable def b_candidate : MS :=
    (sSeq (sAsg 2 (eCallP 1 m_degree (aCons (eVar 0) aNil)))
    (sSeq (sAsg 3 (eCallP 2 m_one_power (aCons (eTup (aCons (eC (.int 1)) (aCons (eC (.int 1)) aNil))) (aCons (eVar 1) aNil))))
    (sSeq (sFor (mR2 (aCons (eC (.int 1)) (aCons (eVar 1) aNil))) (gNameM 4)
    (sSeq (sAsg 5 (eCallP 2 m_divided (aCons (eCallP 2 m_fraction_at (aCons (eVar 0) (aCons (eOp fSub (eVar 2) (eVar 4)) aNil))) (aCons (eCallP 1 m_lead (aCons (eVar 0) aNil)) aNil))))
    (sSeq (sAsg 6 (eCallP 2 m_taken (aCons (eVar 5) (aCons (eCallP 2 m_fraction_at (aCons (eCallP 2 m_power (aCons (eVar 3) (aCons (eOp fDiv (eVar 2) (eVar 1)) aNil))) (aCons (eOp fSub (eVar 2) (eVar 4)) aNil))) aNil))))
    (sAsg 3 (eCallP 2 m_plus (aCons (eVar 3) (aCons (eCallP 2 m_one_power (aCons (eCallP 2 m_divided (aCons (eVar 6) (aCons (eTup (aCons (eOp fDiv (eVar 2) (eVar 1)) (aCons (eC (.int 1)) aNil))) aNil))) (aCons (eOp fSub (eVar 1) (eVar 4)) aNil))) aNil)))))))
    (sRet (eVar 3)))))
@[irreducible] noncomputable def m_candidate : List PyData → Rp := pureOf 7 b_candidate
noncomputable def b_L_neat_poly : MS :=
    (sSeq (sAsg 3 (eOp fAddA (eC (.int 1)) (eCallF 2 m_L_pick (aCons (eVar 0) (aCons (eOp fIx (eFrz (lDisp (aCons (eC (.int 1)) (aCons (eC (.int 1)) (aCons (eC (.int 2)) (aCons (eC (.int 4)) aNil)))))) (eCallF 2 m_L_pick (aCons (eVar 0) (aCons (eC (.int 4)) aNil)))) aNil)))))
    (sSeq (sAsg 4 (if true = true then eFrz (lLc (mR1 (aCons (eOp fSub (eVar 1) (eC (.int 1))) aNil)) (([(("_law_k" : Str), 5)] : List (Str × Nat)).map (·.2)) (gNameM 5) bYes (eOp fMulA (eCallF 2 m_L_number (aCons (eVar 0) (aCons (eVar 2) aNil))) (eCB cInt (aCons (eOp fGt (eCallF 2 m_L_pick (aCons (eVar 0) (aCons (eC (.int 4)) aNil))) (eC (.int 0))) aNil)))) else eOwn (lLc (mR1 (aCons (eOp fSub (eVar 1) (eC (.int 1))) aNil)) (([(("_law_k" : Str), 5)] : List (Str × Nat)).map (·.2)) (gNameM 5) bYes (eOp fMulA (eCallF 2 m_L_number (aCons (eVar 0) (aCons (eVar 2) aNil))) (eCB cInt (aCons (eOp fGt (eCallF 2 m_L_pick (aCons (eVar 0) (aCons (eC (.int 4)) aNil))) (eC (.int 0))) aNil))))))
    (sRet (eCallP 2 m_L_poly (aCons (eOp fAddA (eOp fAddA (eFrz (lDisp (aCons (eC (.int 0)) aNil))) (eVar 4)) (eFrz (lDisp (aCons (eVar 3) aNil)))) (aCons (eVar 3) aNil))))))
@[irreducible] noncomputable def m_L_neat_poly : List PyData → Fl → Rf := flowOf 6 b_L_neat_poly
noncomputable def b_L_turning : MS :=
    (sSeq (sAsg 2 (eOwn (lDisp (aCons (eTup (aCons (eTup (aCons (eC (.int 2)) aNil)) (aCons (eC (.int 1)) aNil))) (aCons (eTup (aCons (eTup (aCons (eC (.int 0)) (aCons (eC (.int 1)) aNil))) (aCons (eC (.int 1)) aNil))) aNil)))))
    (sSeq (sFor (mR1 (aCons (eOp fSub (eVar 0) (eC (.int 1))) aNil)) (gNameM 3)
    (sSeq (sAsg 4 (eCallP 2 m_L_times (aCons (eOp fIx (eVar 2) (eC (.int (-2)))) (aCons (eCallP 2 m_L_poly (aCons (eFrz (lDisp (aCons (eOp fSub (eC (.int 0)) (eOp fIx (eVar 1) (eC (.int 0)))) aNil))) (aCons (eOp fIx (eVar 1) (eC (.int 1))) aNil))) aNil))))
    (sDrop (eMethL mAppend (eVar 2) (aCons (eCallP 2 m_L_sum (aCons (eCallP 2 m_L_times (aCons (eTup (aCons (eTup (aCons (eC (.int 0)) (aCons (eC (.int 1)) aNil))) (aCons (eC (.int 1)) aNil))) (aCons (eOp fIx (eVar 2) (eC (.int (-1)))) aNil))) (aCons (eVar 4) aNil))) aNil)))))
    (sRet (eOp fIx (eVar 2) (eVar 0)))))
@[irreducible] noncomputable def m_L_turning : List PyData → Rp := pureOf 5 b_L_turning
noncomputable def b_L_together : MS :=
    (sSeq (sAsg 1 (eOp fIx (eVar 0) (eC (.int (-1)))))
    (sSeq (sFor (mRev (eSlAny (eVar 0) oNone (oSome (eC (.int (-1)))))) (gNameM 2)
    (sAsg 1 (eCallP 2 m_L_of (aCons (eVar 2) (aCons (eVar 1) aNil)))))
    (sRet (eVar 1))))
@[irreducible] noncomputable def m_L_together : List PyData → Rp := pureOf 3 b_L_together
noncomputable def b_L_power : MS :=
    (sSeq (sAsg 2 (eTup (aCons (eTup (aCons (eC (.int 1)) aNil)) (aCons (eC (.int 1)) aNil))))
    (sSeq (sFor (mR1 (aCons (eVar 1) aNil)) (gNameM 3)
    (sAsg 2 (eCallP 2 m_L_times (aCons (eVar 2) (aCons (eVar 0) aNil)))))
    (sRet (eVar 2))))
@[irreducible] noncomputable def m_L_power : List PyData → Rp := pureOf 4 b_L_power
noncomputable def b_L_within : MS :=
    (sRet (eAndV (eOp fLt (eOp fIx (eVar 0) (eC (.int 1))) (eOp fPow (eC (.int 10)) (eC (.int 40)))) (eCB cAll (aCons (eFrz (lLc (mAny (eOp fIx (eVar 0) (eC (.int 0)))) (([(("_law_top" : Str), 1)] : List (Str × Nat)).map (·.2)) (gNameM 1) bYes (eOp fLt (eCB cAbs (aCons (eVar 1) aNil)) (eOp fPow (eC (.int 10)) (eC (.int 40)))))) aNil))))
@[irreducible] noncomputable def m_L_within : List PyData → Rp := pureOf 2 b_L_within
noncomputable def b_L_drawn_6 : MS :=
    (sSeq (sAsg 1 (eCallF 2 m_L_pick (aCons (eVar 0) (aCons (eC (.int 5)) aNil))))
    (sSeq (sAsg 2 (eOp fIx (eFrz (lDisp (aCons (eC (.int 3)) (aCons (eC (.int 9)) (aCons (eC (.int 99)) aNil))))) (eCallF 2 m_L_pick (aCons (eVar 0) (aCons (eC (.int 3)) aNil)))))
    (sSeq (sAsg 3 (eTup (aCons (eTup (aCons (eC (.int 0)) (aCons (eC (.int 1)) aNil))) (aCons (eC (.int 1)) aNil))))
    (sSeq (sIf (bTest (eOp (opEq false) (eVar 1) (eC (.int 0))))
    (sSeq (sAsg 4 (eOp fAddA (eC (.int 1)) (eCallF 2 m_L_pick (aCons (eVar 0) (aCons (eOp fIx (eFrz (lDisp (aCons (eC (.int 6)) (aCons (eC (.int 12)) aNil)))) (eCB cInt (aCons (eOp (opEq false) (eCallF 2 m_L_pick (aCons (eVar 0) (aCons (eC (.int 4)) aNil))) (eC (.int 0))) aNil))) aNil)))))
    (sSeq (sAsg 3 (eCallF 3 m_L_any_poly (aCons (eVar 0) (aCons (eVar 4) (aCons (eVar 2) aNil)))))
    (sIf (bAnd (bTest (eOp (opEq false) (eCallF 2 m_L_pick (aCons (eVar 0) (aCons (eC (.int 3)) aNil))) (eC (.int 0)))) (bTest (eOp fLt (eVar 4) (eC (.int 5)))))
    (sSeq (sAsg 5 (if true = true then eFrz (lLc (mR1 (aCons (eVar 4) aNil)) (([(("_law_k" : Str), 8)] : List (Str × Nat)).map (·.2)) (gNameM 8) bYes (eCallF 2 m_L_number (aCons (eVar 0) (aCons (eOp fPow (eC (.int 10)) (eC (.int 39))) aNil)))) else eOwn (lLc (mR1 (aCons (eVar 4) aNil)) (([(("_law_k" : Str), 8)] : List (Str × Nat)).map (·.2)) (gNameM 8) bYes (eCallF 2 m_L_number (aCons (eVar 0) (aCons (eOp fPow (eC (.int 10)) (eC (.int 39))) aNil))))))
    (sAsg 3 (eCallP 2 m_L_sum (aCons (eVar 3) (aCons (eCallP 2 m_L_poly (aCons (eVar 5) (aCons (eC (.int 1)) aNil))) aNil)))))
    sNext)))
    sNext)
    (sSeq (sIf (bOr (bTest (eOp (opEq false) (eVar 1) (eC (.int 1)))) (bTest (eOp (opEq false) (eVar 1) (eC (.int 2)))))
    (sSeq (sAsg 6 (eFrz (lDisp (aCons (eTup (aCons (eC (.int 2)) (aCons (eC (.int 2)) aNil))) (aCons (eTup (aCons (eC (.int 2)) (aCons (eC (.int 3)) aNil))) (aCons (eTup (aCons (eC (.int 3)) (aCons (eC (.int 2)) aNil))) (aCons (eTup (aCons (eC (.int 4)) (aCons (eC (.int 2)) aNil))) (aCons (eTup (aCons (eC (.int 2)) (aCons (eC (.int 4)) aNil))) (aCons (eTup (aCons (eC (.int 3)) (aCons (eC (.int 3)) aNil))) (aCons (eTup (aCons (eC (.int 3)) (aCons (eC (.int 4)) aNil))) (aCons (eTup (aCons (eC (.int 4)) (aCons (eC (.int 3)) aNil))) (aCons (eTup (aCons (eC (.int 6)) (aCons (eC (.int 2)) aNil))) (aCons (eTup (aCons (eC (.int 2)) (aCons (eC (.int 6)) aNil))) (aCons (eTup (aCons (eC (.int 5)) (aCons (eC (.int 2)) aNil))) (aCons (eTup (aCons (eC (.int 2)) (aCons (eC (.int 5)) aNil))) aNil)))))))))))))))
    (sSeq (sAsgG (eOp fIx (eVar 6) (eCallF 2 m_L_pick (aCons (eVar 0) (aCons (eC (.int 12)) aNil)))) (gTupM 2 (gConsM (gNameM 7) (gConsM (gNameM 8) gNilM))))
    (sAsg 3 (eCallP 2 m_L_of (aCons (eCallF 3 m_L_any_poly (aCons (eVar 0) (aCons (eVar 7) (aCons (eVar 2) aNil)))) (aCons (eCallF 3 m_L_neat_poly (aCons (eVar 0) (aCons (eVar 8) (aCons (eVar 2) aNil)))) aNil))))))
    sNext)
    (sSeq (sIf (bTest (eOp (opEq false) (eVar 1) (eC (.int 3))))
    (sSeq (sAsg 9 (eOp fIx (eFrz (lDisp (aCons (eTup (aCons (eC (.int 2)) (aCons (eC (.int 2)) (aCons (eC (.int 2)) aNil)))) (aCons (eTup (aCons (eC (.int 2)) (aCons (eC (.int 2)) (aCons (eC (.int 3)) aNil)))) (aCons (eTup (aCons (eC (.int 2)) (aCons (eC (.int 3)) (aCons (eC (.int 2)) aNil)))) (aCons (eTup (aCons (eC (.int 3)) (aCons (eC (.int 2)) (aCons (eC (.int 2)) aNil)))) aNil)))))) (eCallF 2 m_L_pick (aCons (eVar 0) (aCons (eC (.int 4)) aNil)))))
    (sAsg 3 (eCallP 1 m_L_together (aCons (eFrz (lLc (mAny (eVar 9)) (([(("_law_k" : Str), 8)] : List (Str × Nat)).map (·.2)) (gNameM 8) bYes (eCallF 3 m_L_any_poly (aCons (eVar 0) (aCons (eVar 8) (aCons (eC (.int 3)) aNil)))))) aNil))))
    sNext)
    (sSeq (sIf (bTest (eOp (opEq false) (eVar 1) (eC (.int 4))))
    (sSeq (sAsg 10 (eOp fIx (eFrz (lDisp (aCons (eC (.int 2)) (aCons (eC (.int 4)) (aCons (eC (.int 6)) (aCons (eC (.int 8)) (aCons (eC (.int 9)) (aCons (eC (.int 10)) (aCons (eC (.int 12)) (aCons (eC (.int 12)) aNil)))))))))) (eCallF 2 m_L_pick (aCons (eVar 0) (aCons (eC (.int 8)) aNil)))))
    (sSeq (sAsg 3 (eCallP 2 m_L_turning (aCons (eVar 10) (aCons (eTup (aCons (eCallF 2 m_L_number (aCons (eVar 0) (aCons (eC (.int 2)) aNil))) (aCons (eC (.int 1)) aNil))) aNil))))
    (sAsg 3 (eCallP 2 m_L_of (aCons (eCallF 2 m_L_any_straight (aCons (eVar 0) (aCons (eC (.int 3)) aNil))) (aCons (eCallP 2 m_L_of (aCons (eVar 3) (aCons (eCallF 2 m_L_any_straight (aCons (eVar 0) (aCons (eC (.int 3)) aNil))) aNil))) aNil))))))
    sNext)
    (sSeq (sIf (bNot (bTru (eCallP 1 m_L_within (aCons (eVar 3) aNil))))
    (sRet (eCallP 2 m_L_poly (aCons (eOp fAddA (eOp fMulA (eFrz (lDisp (aCons (eC (.int 0)) aNil))) (eC (.int 12))) (eFrz (lDisp (aCons (eC (.int 1)) aNil)))) (aCons (eC (.int 1)) aNil))))
    sNext)
    (sRet (eVar 3))))))))))
@[irreducible] noncomputable def m_L_drawn_6 : List PyData → Fl → Rf := flowOf 11 b_L_drawn_6
noncomputable def b_L_whole : MS :=
    (sRet (eAndV (eIsi (eVar 0) "int") (eNotV (eIsi (eVar 0) "bool"))))
@[irreducible] noncomputable def m_L_whole : List PyData → Rp := pureOf 1 b_L_whole
noncomputable def b_L_is_poly : MS :=
    (sSeq (sIf (bOr (bNot (bTru (eIsi (eVar 0) "tuple"))) (bOr (bTest (eOp (opEq true) (eCB cLen (aCons (eVar 0) aNil)) (eC (.int 2)))) (bNot (bTru (eIsi (eOp fIx (eVar 0) (eC (.int 0))) "tuple")))))
    (sRet (eC (.bool false)))
    sNext)
    (sSeq (sIf (bOr (bNot (bTru (eCallP 1 m_L_whole (aCons (eOp fIx (eVar 0) (eC (.int 1))) aNil)))) (bOr (bTest (eOp fLt (eOp fIx (eVar 0) (eC (.int 1))) (eC (.int 1)))) (bNot (bTru (eCB cAll (aCons (eFrz (lLc (mAny (eOp fIx (eVar 0) (eC (.int 0)))) (([(("_law_top" : Str), 1)] : List (Str × Nat)).map (·.2)) (gNameM 1) bYes (eCallP 1 m_L_whole (aCons (eVar 1) aNil)))) aNil))))))
    (sRet (eC (.bool false)))
    sNext)
    (sRet (eOp (opEq false) (eVar 0) (eCallP 2 m_L_poly (aCons (eOp fIx (eVar 0) (eC (.int 0))) (aCons (eOp fIx (eVar 0) (eC (.int 1))) aNil)))))))
@[irreducible] noncomputable def m_L_is_poly : List PyData → Rp := pureOf 2 b_L_is_poly
noncomputable def b_L_is_candidate : MS :=
    (sSeq (sIf (bOr (bNot (bTru (eCallP 1 m_L_is_poly (aCons (eVar 2) aNil)))) (bOr (bTest (eOp (opEq true) (eCB cLen (aCons (eOp fIx (eVar 2) (eC (.int 0))) aNil)) (eOp fAddA (eVar 1) (eC (.int 1))))) (bOr (bTest (eOp (opEq true) (eOp fIx (eOp fIx (eVar 2) (eC (.int 0))) (eVar 1)) (eOp fIx (eVar 2) (eC (.int 1))))) (bTest (eOp (opEq true) (eOp fIx (eOp fIx (eVar 2) (eC (.int 0))) (eC (.int 0))) (eC (.int 0)))))))
    (sRet (eC (.bool false)))
    sNext)
    (sSeq (sAsg 3 (eOp fSub (eCB cLen (aCons (eOp fIx (eVar 0) (eC (.int 0))) aNil)) (eC (.int 1))))
    (sSeq (sAsg 4 (eCallP 2 m_L_times (aCons (eCallP 2 m_L_power (aCons (eVar 2) (aCons (eOp fDiv (eVar 3) (eVar 1)) aNil))) (aCons (eCallP 2 m_L_poly (aCons (eFrz (lDisp (aCons (eOp fIx (eOp fIx (eVar 0) (eC (.int 0))) (eVar 3)) aNil))) (aCons (eOp fIx (eVar 0) (eC (.int 1))) aNil))) aNil))))
    (sRet (eCB cAll (aCons (eFrz (lLc (mR1 (aCons (eVar 1) aNil)) (([(("_law_k" : Str), 5)] : List (Str × Nat)).map (·.2)) (gNameM 5) bYes (eOp (opEq false) (eCallP 2 m_L_at_2 (aCons (eVar 4) (aCons (eOp fSub (eVar 3) (eVar 5)) aNil))) (eCallP 2 m_L_at_2 (aCons (eVar 0) (aCons (eOp fSub (eVar 3) (eVar 5)) aNil)))))) aNil))))))
@[irreducible] noncomputable def m_L_is_candidate : List PyData → Rp := pureOf 6 b_L_is_candidate
noncomputable def b_L_divisors : MS :=
    (sSeq (sAsg 1 (eOp fSub (eCB cLen (aCons (eOp fIx (eVar 0) (eC (.int 0))) aNil)) (eC (.int 1))))
    (sRet (eFrz (lLc (mR2 (aCons (eC (.int 1)) (aCons (eOp fAddA (eVar 1) (eC (.int 1))) aNil))) (([(("_law_s" : Str), 2)] : List (Str × Nat)).map (·.2)) (gNameM 2) (bTest (eOp (opEq false) (eOp fMod (eVar 1) (eVar 2)) (eC (.int 0)))) (eVar 2)))))
@[irreducible] noncomputable def m_L_divisors : List PyData → Rp := pureOf 3 b_L_divisors
noncomputable def b_L_right_18 : MS :=
    (sRet (eCB cAll (aCons (eFrz (lLc (mAny (eCallP 1 m_L_divisors (aCons (eVar 0) aNil))) (([(("_law_s" : Str), 1)] : List (Str × Nat)).map (·.2)) (gNameM 1) bYes (eCallP 3 m_L_is_candidate (aCons (eVar 0) (aCons (eVar 1) (aCons (eCallP 2 m_candidate (aCons (eVar 0) (aCons (eVar 1) aNil))) aNil)))))) aNil)))
@[irreducible] noncomputable def m_L_right_18 : List PyData → Rp := pureOf 2 b_L_right_18
noncomputable def b_law_k28 : MS :=
    (sSeq (sAsg 2 (if true = true then eFrz (lLc (mR1 (aCons (eC (.int 3)) aNil)) (([(("_law_k" : Str), 3)] : List (Str × Nat)).map (·.2)) (gNameM 3) bYes (eCallF 1 m_L_drawn_6 (aCons (eVar 1) aNil))) else eOwn (lLc (mR1 (aCons (eC (.int 3)) aNil)) (([(("_law_k" : Str), 3)] : List (Str × Nat)).map (·.2)) (gNameM 3) bYes (eCallF 1 m_L_drawn_6 (aCons (eVar 1) aNil)))))
    (sRet (eCB cAll (aCons (eFrz (lLc (mAny (eOp fAddA (eVar 2) (eSlAny (eVar 2) oNone (oSome (eC (.int 1)))))) (([(("_law_f" : Str), 4)] : List (Str × Nat)).map (·.2)) (gNameM 4) bYes (eCallP 1 m_L_right_18 (aCons (eVar 4) aNil)))) aNil))))
noncomputable def b_parted_2 : MS :=
    (sSeq (sAsg 2 (eC c_NOUGHT))
    (sSeq (sAsg 3 (eVar 0))
    (sSeq (sWhile (bTest (eOp fGe (eCallP 1 m_degree (aCons (eVar 3) aNil)) (eCallP 1 m_degree (aCons (eVar 1) aNil))))
    (sSeq (sAsg 4 (eCallP 2 m_one_power (aCons (eCallP 2 m_divided (aCons (eCallP 1 m_lead (aCons (eVar 3) aNil)) (aCons (eCallP 1 m_lead (aCons (eVar 1) aNil)) aNil))) (aCons (eOp fSub (eCallP 1 m_degree (aCons (eVar 3) aNil)) (eCallP 1 m_degree (aCons (eVar 1) aNil))) aNil))))
    (sSeq (sAsg 2 (eCallP 2 m_plus (aCons (eVar 2) (aCons (eVar 4) aNil))))
    (sAsg 3 (eCallP 2 m_minus (aCons (eVar 3) (aCons (eCallP 2 m_times (aCons (eVar 4) (aCons (eVar 1) aNil))) aNil)))))))
    (sRet (eTup (aCons (eVar 2) (aCons (eVar 3) aNil)))))))
@[irreducible] noncomputable def m_parted_2 : List PyData → Rp := pureOf 5 b_parted_2
noncomputable def b_digits : MS :=
    (sSeq (sAsg 2 (eOwn (lDisp aNil)))
    (sSeq (sAsg 3 (eVar 0))
    (sSeq (sWhile (bTest (eOp fGe (eCallP 1 m_degree (aCons (eVar 3) aNil)) (eC (.int 0))))
    (sSeq (sAsgG (eCallP 2 m_parted_2 (aCons (eVar 3) (aCons (eVar 1) aNil))) (gTupM 2 (gConsM (gNameM 3) (gConsM (gNameM 4) gNilM))))
    (sDrop (eMethL mAppend (eVar 2) (aCons (eVar 4) aNil)))))
    (sRet (eCB cTupOf (aCons (eVar 2) aNil))))))
@[irreducible] noncomputable def m_digits : List PyData → Rp := pureOf 5 b_digits
noncomputable def b_L_times_2 : MS :=
    (sSeq (sAsg 2 (eOwn (lOp fRep (eFrz (lDisp (aCons (eC (.int 0)) aNil))) (eOp fAddA (eCB cLen (aCons (eOp fIx (eVar 0) (eC (.int 0))) aNil)) (eCB cLen (aCons (eOp fIx (eVar 1) (eC (.int 0))) aNil))))))
    (sSeq (sFor (mEnum (aCons (eOp fIx (eVar 0) (eC (.int 0))) aNil)) (gTupM 2 (gConsM (gNameM 3) (gConsM (gNameM 4) gNilM)))
    (sFor (mEnum (aCons (eOp fIx (eVar 1) (eC (.int 0))) aNil)) (gTupM 2 (gConsM (gNameM 5) (gConsM (gNameM 6) gNilM)))
    (sAsgG (eOp fAddA (eOp fIx (eVar 2) (eOp fAddA (eVar 3) (eVar 5))) (eOp fMulA (eVar 4) (eVar 6))) (gSubM (eVar 2) (eOp fAddA (eVar 3) (eVar 5))))))
    (sRet (eCallP 2 m_L_poly (aCons (eVar 2) (aCons (eOp fMulA (eOp fIx (eVar 0) (eC (.int 1))) (eOp fIx (eVar 1) (eC (.int 1)))) aNil))))))
@[irreducible] noncomputable def m_L_times_2 : List PyData → Rp := pureOf 7 b_L_times_2
noncomputable def b_L_of_2 : MS :=
    (sSeq (sAsg 2 (eTup (aCons (eTup aNil) (aCons (eC (.int 1)) aNil))))
    (sSeq (sFor (mRev (eOp fIx (eVar 0) (eC (.int 0)))) (gNameM 3)
    (sAsg 2 (eCallP 2 m_L_sum (aCons (eCallP 2 m_L_times_2 (aCons (eVar 2) (aCons (eVar 1) aNil))) (aCons (eCallP 2 m_L_poly (aCons (eFrz (lDisp (aCons (eVar 3) aNil))) (aCons (eOp fIx (eVar 0) (eC (.int 1))) aNil))) aNil)))))
    (sRet (eVar 2))))
@[irreducible] noncomputable def m_L_of_2 : List PyData → Rp := pureOf 4 b_L_of_2
noncomputable def b_L_turning_2 : MS :=
    (sSeq (sAsg 2 (eOwn (lDisp (aCons (eTup (aCons (eTup (aCons (eC (.int 2)) aNil)) (aCons (eC (.int 1)) aNil))) (aCons (eTup (aCons (eTup (aCons (eC (.int 0)) (aCons (eC (.int 1)) aNil))) (aCons (eC (.int 1)) aNil))) aNil)))))
    (sSeq (sFor (mR1 (aCons (eOp fSub (eVar 0) (eC (.int 1))) aNil)) (gNameM 3)
    (sSeq (sAsg 4 (eCallP 2 m_L_times_2 (aCons (eOp fIx (eVar 2) (eC (.int (-2)))) (aCons (eCallP 2 m_L_poly (aCons (eFrz (lDisp (aCons (eOp fSub (eC (.int 0)) (eOp fIx (eVar 1) (eC (.int 0)))) aNil))) (aCons (eOp fIx (eVar 1) (eC (.int 1))) aNil))) aNil))))
    (sDrop (eMethL mAppend (eVar 2) (aCons (eCallP 2 m_L_sum (aCons (eCallP 2 m_L_times_2 (aCons (eTup (aCons (eTup (aCons (eC (.int 0)) (aCons (eC (.int 1)) aNil))) (aCons (eC (.int 1)) aNil))) (aCons (eOp fIx (eVar 2) (eC (.int (-1)))) aNil))) (aCons (eVar 4) aNil))) aNil)))))
    (sRet (eOp fIx (eVar 2) (eVar 0)))))
@[irreducible] noncomputable def m_L_turning_2 : List PyData → Rp := pureOf 5 b_L_turning_2
noncomputable def b_L_together_2 : MS :=
    (sSeq (sAsg 1 (eOp fIx (eVar 0) (eC (.int (-1)))))
    (sSeq (sFor (mRev (eSlAny (eVar 0) oNone (oSome (eC (.int (-1)))))) (gNameM 2)
    (sAsg 1 (eCallP 2 m_L_of_2 (aCons (eVar 2) (aCons (eVar 1) aNil)))))
    (sRet (eVar 1))))
@[irreducible] noncomputable def m_L_together_2 : List PyData → Rp := pureOf 3 b_L_together_2
noncomputable def b_L_power_2 : MS :=
    (sSeq (sAsg 2 (eTup (aCons (eTup (aCons (eC (.int 1)) aNil)) (aCons (eC (.int 1)) aNil))))
    (sSeq (sFor (mR1 (aCons (eVar 1) aNil)) (gNameM 3)
    (sAsg 2 (eCallP 2 m_L_times_2 (aCons (eVar 2) (aCons (eVar 0) aNil)))))
    (sRet (eVar 2))))
@[irreducible] noncomputable def m_L_power_2 : List PyData → Rp := pureOf 4 b_L_power_2
noncomputable def b_L_drawn_7 : MS :=
    (sSeq (sAsg 1 (eCallF 2 m_L_pick (aCons (eVar 0) (aCons (eC (.int 5)) aNil))))
    (sSeq (sAsg 2 (eOp fIx (eFrz (lDisp (aCons (eC (.int 3)) (aCons (eC (.int 9)) (aCons (eC (.int 99)) aNil))))) (eCallF 2 m_L_pick (aCons (eVar 0) (aCons (eC (.int 3)) aNil)))))
    (sSeq (sAsg 3 (eTup (aCons (eTup (aCons (eC (.int 0)) (aCons (eC (.int 1)) aNil))) (aCons (eC (.int 1)) aNil))))
    (sSeq (sIf (bTest (eOp (opEq false) (eVar 1) (eC (.int 0))))
    (sSeq (sAsg 4 (eOp fAddA (eC (.int 1)) (eCallF 2 m_L_pick (aCons (eVar 0) (aCons (eOp fIx (eFrz (lDisp (aCons (eC (.int 6)) (aCons (eC (.int 12)) aNil)))) (eCB cInt (aCons (eOp (opEq false) (eCallF 2 m_L_pick (aCons (eVar 0) (aCons (eC (.int 4)) aNil))) (eC (.int 0))) aNil))) aNil)))))
    (sSeq (sAsg 3 (eCallF 3 m_L_any_poly (aCons (eVar 0) (aCons (eVar 4) (aCons (eVar 2) aNil)))))
    (sIf (bAnd (bTest (eOp (opEq false) (eCallF 2 m_L_pick (aCons (eVar 0) (aCons (eC (.int 3)) aNil))) (eC (.int 0)))) (bTest (eOp fLt (eVar 4) (eC (.int 5)))))
    (sSeq (sAsg 5 (if true = true then eFrz (lLc (mR1 (aCons (eVar 4) aNil)) (([(("_law_k" : Str), 8)] : List (Str × Nat)).map (·.2)) (gNameM 8) bYes (eCallF 2 m_L_number (aCons (eVar 0) (aCons (eOp fPow (eC (.int 10)) (eC (.int 39))) aNil)))) else eOwn (lLc (mR1 (aCons (eVar 4) aNil)) (([(("_law_k" : Str), 8)] : List (Str × Nat)).map (·.2)) (gNameM 8) bYes (eCallF 2 m_L_number (aCons (eVar 0) (aCons (eOp fPow (eC (.int 10)) (eC (.int 39))) aNil))))))
    (sAsg 3 (eCallP 2 m_L_sum (aCons (eVar 3) (aCons (eCallP 2 m_L_poly (aCons (eVar 5) (aCons (eC (.int 1)) aNil))) aNil)))))
    sNext)))
    sNext)
    (sSeq (sIf (bOr (bTest (eOp (opEq false) (eVar 1) (eC (.int 1)))) (bTest (eOp (opEq false) (eVar 1) (eC (.int 2)))))
    (sSeq (sAsg 6 (eFrz (lDisp (aCons (eTup (aCons (eC (.int 2)) (aCons (eC (.int 2)) aNil))) (aCons (eTup (aCons (eC (.int 2)) (aCons (eC (.int 3)) aNil))) (aCons (eTup (aCons (eC (.int 3)) (aCons (eC (.int 2)) aNil))) (aCons (eTup (aCons (eC (.int 4)) (aCons (eC (.int 2)) aNil))) (aCons (eTup (aCons (eC (.int 2)) (aCons (eC (.int 4)) aNil))) (aCons (eTup (aCons (eC (.int 3)) (aCons (eC (.int 3)) aNil))) (aCons (eTup (aCons (eC (.int 3)) (aCons (eC (.int 4)) aNil))) (aCons (eTup (aCons (eC (.int 4)) (aCons (eC (.int 3)) aNil))) (aCons (eTup (aCons (eC (.int 6)) (aCons (eC (.int 2)) aNil))) (aCons (eTup (aCons (eC (.int 2)) (aCons (eC (.int 6)) aNil))) (aCons (eTup (aCons (eC (.int 5)) (aCons (eC (.int 2)) aNil))) (aCons (eTup (aCons (eC (.int 2)) (aCons (eC (.int 5)) aNil))) aNil)))))))))))))))
    (sSeq (sAsgG (eOp fIx (eVar 6) (eCallF 2 m_L_pick (aCons (eVar 0) (aCons (eC (.int 12)) aNil)))) (gTupM 2 (gConsM (gNameM 7) (gConsM (gNameM 8) gNilM))))
    (sAsg 3 (eCallP 2 m_L_of_2 (aCons (eCallF 3 m_L_any_poly (aCons (eVar 0) (aCons (eVar 7) (aCons (eVar 2) aNil)))) (aCons (eCallF 3 m_L_neat_poly (aCons (eVar 0) (aCons (eVar 8) (aCons (eVar 2) aNil)))) aNil))))))
    sNext)
    (sSeq (sIf (bTest (eOp (opEq false) (eVar 1) (eC (.int 3))))
    (sSeq (sAsg 9 (eOp fIx (eFrz (lDisp (aCons (eTup (aCons (eC (.int 2)) (aCons (eC (.int 2)) (aCons (eC (.int 2)) aNil)))) (aCons (eTup (aCons (eC (.int 2)) (aCons (eC (.int 2)) (aCons (eC (.int 3)) aNil)))) (aCons (eTup (aCons (eC (.int 2)) (aCons (eC (.int 3)) (aCons (eC (.int 2)) aNil)))) (aCons (eTup (aCons (eC (.int 3)) (aCons (eC (.int 2)) (aCons (eC (.int 2)) aNil)))) aNil)))))) (eCallF 2 m_L_pick (aCons (eVar 0) (aCons (eC (.int 4)) aNil)))))
    (sAsg 3 (eCallP 1 m_L_together_2 (aCons (eFrz (lLc (mAny (eVar 9)) (([(("_law_k" : Str), 8)] : List (Str × Nat)).map (·.2)) (gNameM 8) bYes (eCallF 3 m_L_any_poly (aCons (eVar 0) (aCons (eVar 8) (aCons (eC (.int 3)) aNil)))))) aNil))))
    sNext)
    (sSeq (sIf (bTest (eOp (opEq false) (eVar 1) (eC (.int 4))))
    (sSeq (sAsg 10 (eOp fIx (eFrz (lDisp (aCons (eC (.int 2)) (aCons (eC (.int 4)) (aCons (eC (.int 6)) (aCons (eC (.int 8)) (aCons (eC (.int 9)) (aCons (eC (.int 10)) (aCons (eC (.int 12)) (aCons (eC (.int 12)) aNil)))))))))) (eCallF 2 m_L_pick (aCons (eVar 0) (aCons (eC (.int 8)) aNil)))))
    (sSeq (sAsg 3 (eCallP 2 m_L_turning_2 (aCons (eVar 10) (aCons (eTup (aCons (eCallF 2 m_L_number (aCons (eVar 0) (aCons (eC (.int 2)) aNil))) (aCons (eC (.int 1)) aNil))) aNil))))
    (sAsg 3 (eCallP 2 m_L_of_2 (aCons (eCallF 2 m_L_any_straight (aCons (eVar 0) (aCons (eC (.int 3)) aNil))) (aCons (eCallP 2 m_L_of_2 (aCons (eVar 3) (aCons (eCallF 2 m_L_any_straight (aCons (eVar 0) (aCons (eC (.int 3)) aNil))) aNil))) aNil))))))
    sNext)
    (sSeq (sIf (bNot (bTru (eCallP 1 m_L_within (aCons (eVar 3) aNil))))
    (sRet (eCallP 2 m_L_poly (aCons (eOp fAddA (eOp fMulA (eFrz (lDisp (aCons (eC (.int 0)) aNil))) (eC (.int 12))) (eFrz (lDisp (aCons (eC (.int 1)) aNil)))) (aCons (eC (.int 1)) aNil))))
    sNext)
    (sRet (eVar 3))))))))))
@[irreducible] noncomputable def m_L_drawn_7 : List PyData → Fl → Rf := flowOf 11 b_L_drawn_7
noncomputable def b_L_right_19 : MS :=
    (sSeq (sAsg 2 (eCallP 2 m_digits (aCons (eVar 0) (aCons (eVar 1) aNil))))
    (sSeq (sIf (bOr (bNot (bTru (eIsi (eVar 2) "tuple"))) (bOr (bTest (eOp (opEq false) (eCB cLen (aCons (eVar 2) aNil)) (eC (.int 0)))) (bNot (bTru (eCB cAll (aCons (eFrz (lLc (mAny (eVar 2)) (([(("_law_one" : Str), 4)] : List (Str × Nat)).map (·.2)) (gNameM 4) bYes (eCallP 1 m_L_is_poly (aCons (eVar 4) aNil)))) aNil))))))
    (sRet (eC (.bool false)))
    sNext)
    (sSeq (sIf (bOr (bNot (bTru (eCB cAll (aCons (eFrz (lLc (mAny (eVar 2)) (([(("_law_one" : Str), 4)] : List (Str × Nat)).map (·.2)) (gNameM 4) bYes (eOp fLt (eCB cLen (aCons (eOp fIx (eVar 4) (eC (.int 0))) aNil)) (eCB cLen (aCons (eOp fIx (eVar 1) (eC (.int 0))) aNil))))) aNil)))) (bTest (eOp (opEq false) (eOp fIx (eOp fIx (eVar 2) (eC (.int (-1)))) (eC (.int 0))) (eTup aNil))))
    (sRet (eC (.bool false)))
    sNext)
    (sSeq (sAsg 3 (eTup (aCons (eTup aNil) (aCons (eC (.int 1)) aNil))))
    (sSeq (sFor (mRev (eVar 2)) (gNameM 4)
    (sAsg 3 (eCallP 2 m_L_sum (aCons (eCallP 2 m_L_times_2 (aCons (eVar 3) (aCons (eVar 1) aNil))) (aCons (eVar 4) aNil)))))
    (sRet (eOp (opEq false) (eVar 3) (eVar 0))))))))
@[irreducible] noncomputable def m_L_right_19 : List PyData → Rp := pureOf 5 b_L_right_19
noncomputable def b_L_other : MS :=
    (sSeq (sIf (bTest (eOp (opEq false) (eCallF 2 m_L_pick (aCons (eVar 0) (aCons (eC (.int 3)) aNil))) (eC (.int 0))))
    (sRet (eCallF 3 m_L_neat_poly (aCons (eVar 0) (aCons (eOp fAddA (eC (.int 1)) (eCallF 2 m_L_pick (aCons (eVar 0) (aCons (eC (.int 6)) aNil)))) (aCons (eC (.int 9)) aNil)))))
    sNext)
    (sRet (eCallF 3 m_L_any_poly (aCons (eVar 0) (aCons (eOp fAddA (eC (.int 1)) (eCallF 2 m_L_pick (aCons (eVar 0) (aCons (eC (.int 7)) aNil)))) (aCons (eOp fIx (eFrz (lDisp (aCons (eC (.int 2)) (aCons (eC (.int 9)) (aCons (eC (.int 999)) aNil))))) (eCallF 2 m_L_pick (aCons (eVar 0) (aCons (eC (.int 3)) aNil)))) aNil))))))
@[irreducible] noncomputable def m_L_other : List PyData → Fl → Rf := flowOf 1 b_L_other
noncomputable def b_law_k29 : MS :=
    (sSeq (sAsg 2 (eOwn (lDisp aNil)))
    (sSeq (sFor (mR1 (aCons (eC (.int 2)) aNil)) (gNameM 3)
    (sDrop (eMethL mAppend (eVar 2) (aCons (eTup (aCons (eCallF 1 m_L_drawn_7 (aCons (eVar 1) aNil)) (aCons (eCallF 1 m_L_other (aCons (eVar 1) aNil)) aNil))) aNil))))
    (sSeq (sDrop (eMethL mAppend (eVar 2) (aCons (eTup (aCons (eOp fIx (eOp fIx (eVar 2) (eC (.int 0))) (eC (.int 0))) (aCons (eOp fIx (eOp fIx (eVar 2) (eC (.int 1))) (eC (.int 1))) aNil))) aNil)))
    (sRet (eCB cAll (aCons (eFrz (lLc (mAny (eOp fAddA (eVar 2) (eSlAny (eVar 2) oNone (oSome (eC (.int 1)))))) (([(("_law_f" : Str), 4), (("_law_h" : Str), 5)] : List (Str × Nat)).map (·.2)) (gTupM 2 (gConsM (gNameM 4) (gConsM (gNameM 5) gNilM))) bYes (eCallP 2 m_L_right_19 (aCons (eVar 4) (aCons (eVar 5) aNil))))) aNil))))))
noncomputable def b_apart : MS :=
    (sSeq (sAsg 2 (eCallP 2 m_candidate (aCons (eVar 0) (aCons (eVar 1) aNil))))
    (sSeq (sAsg 3 (eCallP 2 m_digits (aCons (eVar 0) (aCons (eVar 2) aNil))))
    (sSeq (sFor (mEnum (aCons (eVar 3) aNil)) (gTupM 2 (gConsM (gNameM 4) (gConsM (gNameM 5) gNilM)))
    (sIf (bTest (eOp fGe (eCallP 1 m_degree (aCons (eVar 5) aNil)) (eC (.int 1))))
    (sRet (eTup (aCons (eC (.str ("barred" : Str))) (aCons (eVar 2) (aCons (eVar 4) aNil)))))
    sNext))
    (sRet (eTup (aCons (eC (.str ("made" : Str))) (aCons (eCallP 1 m_poly (aCons (eFrz (lLc (mAny (eVar 3)) (([(("one" : Str), 5)] : List (Str × Nat)).map (·.2)) (gNameM 5) bYes (eCallP 2 m_fraction_at (aCons (eVar 5) (aCons (eC (.int 0)) aNil))))) aNil)) (aCons (eVar 2) aNil))))))))
@[irreducible] noncomputable def m_apart : List PyData → Rp := pureOf 6 b_apart
noncomputable def b_L_rest : MS :=
    (sSeq (sAsg 2 (eTup (aCons (eTup aNil) (aCons (eC (.int 1)) aNil))))
    (sSeq (sWhile (bTest (eOp fGe (eCB cLen (aCons (eOp fIx (eVar 0) (eC (.int 0))) aNil)) (eCB cLen (aCons (eOp fIx (eVar 1) (eC (.int 0))) aNil))))
    (sSeq (sAsg 3 (eCallP 2 m_L_fraction (aCons (eOp fMulA (eOp fIx (eOp fIx (eVar 0) (eC (.int 0))) (eC (.int (-1)))) (eOp fIx (eVar 1) (eC (.int 1)))) (aCons (eOp fMulA (eOp fIx (eVar 0) (eC (.int 1))) (eOp fIx (eOp fIx (eVar 1) (eC (.int 0))) (eC (.int (-1))))) aNil))))
    (sSeq (sAsg 4 (eCallP 2 m_L_poly (aCons (eOp fAddA (eOp fMulA (eFrz (lDisp (aCons (eC (.int 0)) aNil))) (eOp fSub (eCB cLen (aCons (eOp fIx (eVar 0) (eC (.int 0))) aNil)) (eCB cLen (aCons (eOp fIx (eVar 1) (eC (.int 0))) aNil)))) (eFrz (lDisp (aCons (eOp fIx (eVar 3) (eC (.int 0))) aNil)))) (aCons (eOp fIx (eVar 3) (eC (.int 1))) aNil))))
    (sSeq (sAsg 2 (eCallP 2 m_L_sum (aCons (eVar 2) (aCons (eVar 4) aNil))))
    (sAsg 0 (eCallP 2 m_L_sum (aCons (eVar 0) (aCons (eCallP 2 m_L_times (aCons (eCallP 2 m_L_times (aCons (eVar 1) (aCons (eVar 4) aNil))) (aCons (eTup (aCons (eTup (aCons (eOp fSub (eC (.int 0)) (eC (.int 1))) aNil)) (aCons (eC (.int 1)) aNil))) aNil))) aNil))))))))
    (sRet (eTup (aCons (eVar 0) (aCons (eVar 2) aNil))))))
@[irreducible] noncomputable def m_L_rest : List PyData → Rp := pureOf 5 b_L_rest
noncomputable def b_L_digits : MS :=
    (sSeq (sAsg 2 (eOwn (lDisp aNil)))
    (sSeq (sWhile (bTest (eOp fGt (eCB cLen (aCons (eOp fIx (eVar 0) (eC (.int 0))) aNil)) (eC (.int 0))))
    (sSeq (sAsgG (eCallP 2 m_L_rest (aCons (eVar 0) (aCons (eVar 1) aNil))) (gTupM 2 (gConsM (gNameM 3) (gConsM (gNameM 0) gNilM))))
    (sDrop (eMethL mAppend (eVar 2) (aCons (eVar 3) aNil)))))
    (sRet (eCB cTupOf (aCons (eVar 2) aNil)))))
@[irreducible] noncomputable def m_L_digits : List PyData → Rp := pureOf 4 b_L_digits
noncomputable def b_L_right_20 : MS :=
    (sSeq (sAsg 2 (eCallP 2 m_apart (aCons (eVar 0) (aCons (eVar 1) aNil))))
    (sSeq (sIf (bOr (bNot (bTru (eIsi (eVar 2) "tuple"))) (bTest (eOp (opEq true) (eCB cLen (aCons (eVar 2) aNil)) (eC (.int 3)))))
    (sRet (eC (.bool false)))
    sNext)
    (sSeq (sIf (bTest (eOp (opEq false) (eOp fIx (eVar 2) (eC (.int 0))) (eC (.str ("made" : Str)))))
    (sSeq (sAsgG (eVar 2) (gTupM 3 (gConsM (gNameM 3) (gConsM (gNameM 4) (gConsM (gNameM 5) gNilM)))))
    (sSeq (sIf (bOr (bNot (bTru (eCallP 1 m_L_is_poly (aCons (eVar 4) aNil)))) (bNot (bTru (eCallP 3 m_L_is_candidate (aCons (eVar 0) (aCons (eVar 1) (aCons (eVar 5) aNil)))))))
    (sRet (eC (.bool false)))
    sNext)
    (sRet (eOp (opEq false) (eCallP 2 m_L_of (aCons (eVar 4) (aCons (eVar 5) aNil))) (eVar 0)))))
    sNext)
    (sSeq (sAsgG (eVar 2) (gTupM 3 (gConsM (gNameM 3) (gConsM (gNameM 5) (gConsM (gNameM 6) gNilM)))))
    (sSeq (sIf (bOr (bTest (eOp (opEq true) (eVar 3) (eC (.str ("barred" : Str))))) (bOr (bNot (bTru (eCallP 3 m_L_is_candidate (aCons (eVar 0) (aCons (eVar 1) (aCons (eVar 5) aNil)))))) (bNot (bTru (eCallP 1 m_L_whole (aCons (eVar 6) aNil))))))
    (sRet (eC (.bool false)))
    sNext)
    (sRet (eOp (opEq false) (eSlAny (eFrz (lLc (mEnum (aCons (eCallP 2 m_L_digits (aCons (eVar 0) (aCons (eVar 5) aNil))) aNil)) (([(("_law_k" : Str), 7), (("_law_one" : Str), 8)] : List (Str × Nat)).map (·.2)) (gTupM 2 (gConsM (gNameM 7) (gConsM (gNameM 8) gNilM))) (bTest (eOp fGt (eCB cLen (aCons (eOp fIx (eVar 8) (eC (.int 0))) aNil)) (eC (.int 1)))) (eVar 7))) oNone (oSome (eC (.int 1)))) (eFrz (lDisp (aCons (eVar 6) aNil))))))))))
@[irreducible] noncomputable def m_L_right_20 : List PyData → Rp := pureOf 9 b_L_right_20
noncomputable def b_L_pair_2 : MS :=
    (sSeq (sAsg 1 (eFrz (lDisp (aCons (eTup (aCons (eC (.int 2)) (aCons (eC (.int 2)) aNil))) (aCons (eTup (aCons (eC (.int 2)) (aCons (eC (.int 3)) aNil))) (aCons (eTup (aCons (eC (.int 3)) (aCons (eC (.int 2)) aNil))) (aCons (eTup (aCons (eC (.int 4)) (aCons (eC (.int 2)) aNil))) (aCons (eTup (aCons (eC (.int 2)) (aCons (eC (.int 4)) aNil))) (aCons (eTup (aCons (eC (.int 3)) (aCons (eC (.int 3)) aNil))) (aCons (eTup (aCons (eC (.int 3)) (aCons (eC (.int 4)) aNil))) (aCons (eTup (aCons (eC (.int 4)) (aCons (eC (.int 3)) aNil))) (aCons (eTup (aCons (eC (.int 6)) (aCons (eC (.int 2)) aNil))) (aCons (eTup (aCons (eC (.int 2)) (aCons (eC (.int 6)) aNil))) (aCons (eTup (aCons (eC (.int 5)) (aCons (eC (.int 2)) aNil))) (aCons (eTup (aCons (eC (.int 2)) (aCons (eC (.int 5)) aNil))) aNil)))))))))))))))
    (sSeq (sAsgG (eOp fIx (eVar 1) (eCallF 2 m_L_pick (aCons (eVar 0) (aCons (eC (.int 12)) aNil)))) (gTupM 2 (gConsM (gNameM 2) (gConsM (gNameM 3) gNilM))))
    (sSeq (sAsg 4 (eOp fIx (eFrz (lDisp (aCons (eC (.int 3)) (aCons (eC (.int 9)) (aCons (eC (.int 999)) aNil))))) (eCallF 2 m_L_pick (aCons (eVar 0) (aCons (eC (.int 3)) aNil)))))
    (sRet (eTup (aCons (eCallF 3 m_L_any_poly (aCons (eVar 0) (aCons (eVar 2) (aCons (eVar 4) aNil)))) (aCons (eCallF 3 m_L_neat_poly (aCons (eVar 0) (aCons (eVar 3) (aCons (eVar 4) aNil)))) aNil)))))))
@[irreducible] noncomputable def m_L_pair_2 : List PyData → Fl → Rf := flowOf 5 b_L_pair_2
noncomputable def b_law_k30 : MS :=
    (sSeq (sAsgG (eCallF 1 m_L_pair_2 (aCons (eVar 1) aNil)) (gTupM 2 (gConsM (gNameM 2) (gConsM (gNameM 3) gNilM))))
    (sSeq (sAsg 4 (eCallP 2 m_L_of (aCons (eVar 2) (aCons (eVar 3) aNil))))
    (sSeq (sIf (bNot (bTru (eCallP 1 m_L_within (aCons (eVar 4) aNil))))
    (sSeq (sPar 2 3 (aCons (eTup (aCons (eTup (aCons (eC (.int 1)) (aCons (eC (.int 0)) (aCons (eC (.int 3)) aNil)))) (aCons (eC (.int 2)) aNil))) (aCons (eTup (aCons (eTup (aCons (eC (.int 0)) (aCons (eC (.int 1)) (aCons (eC (.int 1)) aNil)))) (aCons (eC (.int 1)) aNil))) aNil)))
    (sAsg 4 (eCallP 2 m_L_of (aCons (eVar 2) (aCons (eVar 3) aNil)))))
    sNext)
    (sSeq (sIf (bNot (bTru (eCallP 2 (m_L_alike_3 8) (aCons (eCallP 2 m_apart (aCons (eVar 4) (aCons (eOp fSub (eCB cLen (aCons (eOp fIx (eVar 3) (eC (.int 0))) aNil)) (eC (.int 1))) aNil))) (aCons (eTup (aCons (eC (.str ("made" : Str))) (aCons (eVar 2) (aCons (eVar 3) aNil)))) aNil)))))
    (sRet (eC (.bool false)))
    sNext)
    (sSeq (sAsg 5 (eOwn (lCB cListOf (aCons (eOp fIx (eVar 4) (eC (.int 0))) aNil))))
    (sSeq (sAsg 6 (eCallF 2 m_L_pick (aCons (eVar 1) (aCons (eCB cLen (aCons (eVar 5) aNil)) aNil))))
    (sSeq (sAsgG (eOp fAddA (eOp fIx (eVar 5) (eVar 6)) (eOp fIx (eFrz (lDisp (aCons (eC (.int 1)) (aCons (eOp fSub (eC (.int 0)) (eC (.int 1))) (aCons (eOp fIx (eVar 4) (eC (.int 1))) aNil))))) (eCallF 2 m_L_pick (aCons (eVar 1) (aCons (eC (.int 3)) aNil))))) (gSubM (eVar 5) (eVar 6)))
    (sSeq (sAsg 7 (eCallP 2 m_L_poly (aCons (eVar 5) (aCons (eOp fIx (eVar 4) (eC (.int 1))) aNil))))
    (sSeq (sIf (bNot (bTru (eCallP 1 m_L_within (aCons (eVar 7) aNil))))
    (sAsg 7 (eVar 4))
    sNext)
    (sSeq (sFor (mAny (eFrz (lDisp (aCons (eVar 4) (aCons (eVar 7) (aCons (eCallF 1 m_L_drawn_6 (aCons (eVar 1) aNil)) aNil)))))) (gNameM 8)
    (sIf (bAnd (bTest (eOp fGt (eCB cLen (aCons (eOp fIx (eVar 8) (eC (.int 0))) aNil)) (eC (.int 1)))) (bNot (bTru (eCB cAll (aCons (eFrz (lLc (mAny (eCallP 1 m_L_divisors (aCons (eVar 8) aNil))) (([(("_law_s" : Str), 9)] : List (Str × Nat)).map (·.2)) (gNameM 9) bYes (eCallP 2 m_L_right_20 (aCons (eVar 8) (aCons (eVar 9) aNil))))) aNil)))))
    (sRet (eC (.bool false)))
    sNext))
    (sRet (eCallP 2 (m_L_alike_3 8) (aCons (eCallP 2 m_apart (aCons (eVar 4) (aCons (eOp fSub (eCB cLen (aCons (eOp fIx (eVar 3) (eC (.int 0))) aNil)) (eC (.int 1))) aNil))) (aCons (eTup (aCons (eC (.str ("made" : Str))) (aCons (eVar 2) (aCons (eVar 3) aNil)))) aNil))))))))))))))
noncomputable def b_inner_degrees : MS :=
    (sSeq (sAsg 1 (eCallP 1 m_degree (aCons (eVar 0) aNil)))
    (sRet (eOwn (lLc (mR2 (aCons (eC (.int 1)) (aCons (eOp fAddA (eVar 1) (eC (.int 1))) aNil))) (([(("s" : Str), 2)] : List (Str × Nat)).map (·.2)) (gNameM 2) (bAnd (bTest (eOp (opEq false) (eOp fMod (eVar 1) (eVar 2)) (eC (.int 0)))) (bOr (bTest (eOp (fIn false) (eVar 2) (eTup (aCons (eC (.int 1)) (aCons (eVar 1) aNil))))) (bTest (eOp (opEq false) (eOp fIx (eCallP 2 m_apart (aCons (eVar 0) (aCons (eVar 2) aNil))) (eC (.int 0))) (eC (.str ("made" : Str))))))) (eVar 2)))))
@[irreducible] noncomputable def m_inner_degrees : List PyData → Rp := pureOf 3 b_inner_degrees
noncomputable def b_inner_one : MS :=
    (sRet (eCallP 2 m_candidate (aCons (eVar 0) (aCons (eVar 1) aNil))))
@[irreducible] noncomputable def m_inner_one : List PyData → Rp := pureOf 2 b_inner_one
noncomputable def b_L_candidate : MS :=
    (sSeq (sAsg 2 (eOp fSub (eCB cLen (aCons (eOp fIx (eVar 0) (eC (.int 0))) aNil)) (eC (.int 1))))
    (sSeq (sAsg 3 (eCallP 2 m_L_times (aCons (eVar 0) (aCons (eCallP 2 m_L_poly (aCons (eFrz (lDisp (aCons (eOp fMulA (eOp fIx (eVar 0) (eC (.int 1))) (eOp fIx (eFrz (lDisp (aCons (eC (.int 1)) (aCons (eOp fSub (eC (.int 0)) (eC (.int 1))) aNil)))) (eCB cInt (aCons (eOp fLt (eOp fIx (eOp fIx (eVar 0) (eC (.int 0))) (eVar 2)) (eC (.int 0))) aNil)))) aNil))) (aCons (eCB cAbs (aCons (eOp fIx (eOp fIx (eVar 0) (eC (.int 0))) (eVar 2)) aNil)) aNil))) aNil))))
    (sSeq (sAsg 4 (eCallP 2 m_L_poly (aCons (eOp fAddA (eOp fMulA (eFrz (lDisp (aCons (eC (.int 0)) aNil))) (eVar 1)) (eFrz (lDisp (aCons (eC (.int 1)) aNil)))) (aCons (eC (.int 1)) aNil))))
    (sSeq (sFor (mR2 (aCons (eC (.int 1)) (aCons (eVar 1) aNil))) (gNameM 5)
    (sSeq (sAsg 6 (eCallP 2 m_L_at_2 (aCons (eCallP 2 m_L_power (aCons (eVar 4) (aCons (eOp fDiv (eVar 2) (eVar 1)) aNil))) (aCons (eOp fSub (eVar 2) (eVar 5)) aNil))))
    (sSeq (sAsg 7 (eCallP 2 m_L_at_2 (aCons (eVar 3) (aCons (eOp fSub (eVar 2) (eVar 5)) aNil))))
    (sSeq (sAsg 8 (eCallP 2 m_L_fraction (aCons (eOp fSub (eOp fMulA (eOp fIx (eVar 7) (eC (.int 0))) (eOp fIx (eVar 6) (eC (.int 1)))) (eOp fMulA (eOp fIx (eVar 6) (eC (.int 0))) (eOp fIx (eVar 7) (eC (.int 1))))) (aCons (eOp fMulA (eOp fMulA (eOp fIx (eVar 7) (eC (.int 1))) (eOp fIx (eVar 6) (eC (.int 1)))) (eOp fDiv (eVar 2) (eVar 1))) aNil))))
    (sAsg 4 (eCallP 2 m_L_sum (aCons (eVar 4) (aCons (eCallP 2 m_L_poly (aCons (eOp fAddA (eOp fMulA (eFrz (lDisp (aCons (eC (.int 0)) aNil))) (eOp fSub (eVar 1) (eVar 5))) (eFrz (lDisp (aCons (eOp fIx (eVar 8) (eC (.int 0))) aNil)))) (aCons (eOp fIx (eVar 8) (eC (.int 1))) aNil))) aNil))))))))
    (sRet (eVar 4))))))
@[irreducible] noncomputable def m_L_candidate : List PyData → Rp := pureOf 9 b_L_candidate
noncomputable def b_L_apart : MS :=
    (sSeq (sAsg 2 (eCallP 2 m_L_candidate (aCons (eVar 0) (aCons (eVar 1) aNil))))
    (sSeq (sAsg 3 (eCallP 2 m_L_digits (aCons (eVar 0) (aCons (eVar 2) aNil))))
    (sSeq (sFor (mEnum (aCons (eVar 3) aNil)) (gTupM 2 (gConsM (gNameM 4) (gConsM (gNameM 5) gNilM)))
    (sIf (bTest (eOp fGt (eCB cLen (aCons (eOp fIx (eVar 5) (eC (.int 0))) aNil)) (eC (.int 1))))
    (sRet (eTup (aCons (eC (.str ("barred" : Str))) (aCons (eVar 2) (aCons (eVar 4) aNil)))))
    sNext))
    (sSeq (sAsg 6 (eC (.int 1)))
    (sSeq (sFor (mAny (eVar 3)) (gNameM 5)
    (sAsg 6 (eOp fMulA (eVar 6) (eOp fIx (eVar 5) (eC (.int 1))))))
    (sRet (eTup (aCons (eC (.str ("made" : Str))) (aCons (eCallP 2 m_L_poly (aCons (eFrz (lLc (mAny (eVar 3)) (([(("_law_one" : Str), 5)] : List (Str × Nat)).map (·.2)) (gNameM 5) bYes (eOp fMulA (eCB cSum (aCons (eOp fIx (eVar 5) (eC (.int 0))) aNil)) (eOp fDiv (eVar 6) (eOp fIx (eVar 5) (eC (.int 1))))))) (aCons (eVar 6) aNil))) (aCons (eVar 2) aNil))))))))))
@[irreducible] noncomputable def m_L_apart : List PyData → Rp := pureOf 7 b_L_apart
noncomputable def b_L_right_21 : MS :=
    (sSeq (sAsg 1 (if true = true then eFrz (lLc (mAny (eCallP 1 m_L_divisors (aCons (eVar 0) aNil))) (([(("_law_s" : Str), 3)] : List (Str × Nat)).map (·.2)) (gNameM 3) bYes (eTup (aCons (eVar 3) (aCons (eCallP 2 m_L_apart (aCons (eVar 0) (aCons (eVar 3) aNil))) aNil)))) else eOwn (lLc (mAny (eCallP 1 m_L_divisors (aCons (eVar 0) aNil))) (([(("_law_s" : Str), 3)] : List (Str × Nat)).map (·.2)) (gNameM 3) bYes (eTup (aCons (eVar 3) (aCons (eCallP 2 m_L_apart (aCons (eVar 0) (aCons (eVar 3) aNil))) aNil))))))
    (sSeq (sAsg 2 (eCallO 1 m_inner_degrees (aCons (eVar 0) aNil)))
    (sSeq (sIf (bNot (bTru (eCallP 2 (m_L_alike_3 8) (aCons (eVar 2) (aCons (eFrz (lLc (mAny (eVar 1)) (([(("_law_s" : Str), 3), (("_law_told" : Str), 4)] : List (Str × Nat)).map (·.2)) (gTupM 2 (gConsM (gNameM 3) (gConsM (gNameM 4) gNilM))) (bTest (eOp (opEq false) (eOp fIx (eVar 4) (eC (.int 0))) (eC (.str ("made" : Str))))) (eVar 3))) aNil)))))
    (sRet (eC (.bool false)))
    sNext)
    (sSeq (sDrop (eMethL mClear (eVar 2) aNil))
    (sSeq (sFor (mAny (eVar 1)) (gTupM 2 (gConsM (gNameM 3) (gConsM (gNameM 4) gNilM)))
    (sSeq (sIf (bNot (bTru (eCallP 2 (m_L_alike_3 8) (aCons (eCallP 2 m_apart (aCons (eVar 0) (aCons (eVar 3) aNil))) (aCons (eVar 4) aNil)))))
    (sRet (eC (.bool false)))
    sNext)
    (sIf (bAnd (bTest (eOp (opEq false) (eOp fIx (eVar 4) (eC (.int 0))) (eC (.str ("made" : Str))))) (bNot (bTru (eCallP 2 (m_L_alike_3 8) (aCons (eCallP 2 m_inner_one (aCons (eVar 0) (aCons (eVar 3) aNil))) (aCons (eOp fIx (eVar 4) (eC (.int 2))) aNil))))))
    (sRet (eC (.bool false)))
    sNext)))
    (sRet (eCallP 2 (m_L_alike_3 8) (aCons (eCallP 1 m_inner_degrees (aCons (eVar 0) aNil)) (aCons (eFrz (lLc (mAny (eVar 1)) (([(("_law_s" : Str), 3), (("_law_told" : Str), 4)] : List (Str × Nat)).map (·.2)) (gTupM 2 (gConsM (gNameM 3) (gConsM (gNameM 4) gNilM))) (bTest (eOp (opEq false) (eOp fIx (eVar 4) (eC (.int 0))) (eC (.str ("made" : Str))))) (eVar 3))) aNil)))))))))
@[irreducible] noncomputable def m_L_right_21 : List PyData → Rp := pureOf 5 b_L_right_21
noncomputable def b_law_k31 : MS :=
    (sRet (eCB cAll (aCons (eFrz (lLc (mR1 (aCons (eC (.int 2)) aNil)) (([(("_law_k" : Str), 2)] : List (Str × Nat)).map (·.2)) (gNameM 2) bYes (eCallP 1 m_L_right_21 (aCons (eCallF 1 m_L_drawn_6 (aCons (eVar 1) aNil)) aNil)))) aNil)))
/-! NOT PRINTED L_right_22 (law_k32): call dict/1 -/
/-! NOT PRINTED law_k32 (law_k32): callee -/
noncomputable def b_L_neat : MS :=
    (sSeq (sAsg 1 (eOp fIx (eFrz (lDisp (aCons (eC (.int 1)) (aCons (eOp fSub (eC (.int 0)) (eC (.int 1))) aNil)))) (eCB cInt (aCons (eOp fLt (eOp fIx (eOp fIx (eVar 0) (eC (.int 0))) (eC (.int (-1)))) (eC (.int 0))) aNil))))
    (sRet (eCallP 2 m_L_poly (aCons (eOp fAddA (eFrz (lDisp (aCons (eC (.int 0)) aNil))) (eFrz (lLc (mAny (eSlAny (eOp fIx (eVar 0) (eC (.int 0))) (oSome (eC (.int 1))) oNone)) (([(("_law_top" : Str), 2)] : List (Str × Nat)).map (·.2)) (gNameM 2) bYes (eOp fMulA (eVar 2) (eVar 1))))) (aCons (eCB cAbs (aCons (eOp fIx (eOp fIx (eVar 0) (eC (.int 0))) (eC (.int (-1)))) aNil)) aNil)))))
@[irreducible] noncomputable def m_L_neat : List PyData → Rp := pureOf 3 b_L_neat
noncomputable def b_L_right_23 : MS :=
    (sSeq (sPar 3 4 (aCons (eCallP 2 m_put (aCons (eVar 1) (aCons (eVar 0) aNil))) (aCons (eCallP 2 m_put (aCons (eVar 0) (aCons (eVar 2) aNil))) aNil)))
    (sSeq (sIf (bOr (bTest (eOp (opEq true) (eCallP 1 m_inner_degrees (aCons (eVar 3) aNil)) (eCallP 1 m_inner_degrees (aCons (eVar 0) aNil)))) (bTest (eOp (opEq true) (eCallP 1 m_inner_degrees (aCons (eVar 4) aNil)) (eCallP 1 m_inner_degrees (aCons (eVar 0) aNil)))))
    (sRet (eC (.bool false)))
    sNext)
    (sSeq (sFor (mAny (eCallP 1 m_L_divisors (aCons (eVar 0) aNil))) (gNameM 5)
    (sSeq (sAsg 6 (eCallP 2 m_apart (aCons (eVar 0) (aCons (eVar 5) aNil))))
    (sSeq (sPar 7 8 (aCons (eCallP 2 m_apart (aCons (eVar 3) (aCons (eVar 5) aNil))) (aCons (eCallP 2 m_apart (aCons (eVar 4) (aCons (eVar 5) aNil))) aNil)))
    (sSeq (sIf (bOr (bTest (eOp (opEq true) (eOp fIx (eVar 7) (eC (.int 0))) (eOp fIx (eVar 6) (eC (.int 0))))) (bTest (eOp (opEq true) (eOp fIx (eVar 8) (eC (.int 0))) (eOp fIx (eVar 6) (eC (.int 0))))))
    (sRet (eC (.bool false)))
    sNext)
    (sSeq (sIf (bTest (eOp (opEq false) (eOp fIx (eVar 6) (eC (.int 0))) (eC (.str ("barred" : Str)))))
    (sSeq (sIf (bTest (eOp (opEq true) (eSlAny (eVar 7) (oSome (eC (.int 1))) oNone) (eSlAny (eVar 6) (oSome (eC (.int 1))) oNone)))
    (sRet (eC (.bool false)))
    sNext)
    (sAsg 9 (eOp fIx (eVar 6) (eC (.int 1)))))
    (sSeq (sAsg 9 (eOp fIx (eVar 6) (eC (.int 2))))
    (sIf (bOr (bTest (eOp (opEq true) (eOp fIx (eVar 7) (eC (.int 2))) (eVar 9))) (bTest (eOp (opEq true) (eOp fIx (eVar 7) (eC (.int 1))) (eCallP 2 m_put (aCons (eVar 1) (aCons (eOp fIx (eVar 6) (eC (.int 1))) aNil))))))
    (sRet (eC (.bool false)))
    sNext)))
    (sIf (bTest (eOp (opEq true) (eOp fIx (eFrz (lDisp (aCons (eOp fIx (eVar 8) (eC (.int 2))) (aCons (eOp fIx (eVar 8) (eC (.int 1))) aNil)))) (eCB cInt (aCons (eOp (opEq false) (eOp fIx (eVar 6) (eC (.int 0))) (eC (.str ("barred" : Str)))) aNil))) (eCallP 1 m_L_neat (aCons (eCallP 2 m_L_of (aCons (eVar 9) (aCons (eVar 2) aNil))) aNil))))
    (sRet (eC (.bool false)))
    sNext))))))
    (sRet (eC (.bool true))))))
@[irreducible] noncomputable def m_L_right_23 : List PyData → Rp := pureOf 10 b_L_right_23
noncomputable def b_law_k33 : MS :=
    (sSeq (sAsg 2 (eCallF 1 m_L_drawn_6 (aCons (eVar 1) aNil)))
    (sSeq (sPar 3 4 (aCons (eCallF 2 m_L_any_straight (aCons (eVar 1) (aCons (eC (.int 9)) aNil))) (aCons (eCallF 2 m_L_any_straight (aCons (eVar 1) (aCons (eC (.int 3)) aNil))) aNil)))
    (sSeq (sIf (bOr (bNot (bTru (eCallP 1 m_L_within (aCons (eCallP 2 m_L_of (aCons (eVar 3) (aCons (eVar 2) aNil))) aNil)))) (bNot (bTru (eCallP 1 m_L_within (aCons (eCallP 2 m_L_of (aCons (eVar 2) (aCons (eVar 4) aNil))) aNil)))))
    (sAsg 2 (eTup (aCons (eTup (aCons (eC (.int 0)) (aCons (eC (.int 0)) (aCons (eC (.int 1)) (aCons (eC (.int 0)) (aCons (eC (.int 0)) (aCons (eC (.int 0)) (aCons (eC (.int 1)) aNil)))))))) (aCons (eC (.int 1)) aNil))))
    sNext)
    (sRet (eCallP 3 m_L_right_23 (aCons (eVar 2) (aCons (eVar 3) (aCons (eVar 4) aNil))))))))
noncomputable def b_together : MS :=
    (sSeq (sAsg 1 (eOp fIx (eVar 0) (eC (.int (-1)))))
    (sSeq (sFor (mRev (eSlAny (eVar 0) oNone (oSome (eC (.int (-1)))))) (gNameM 2)
    (sAsg 1 (eCallP 2 m_put (aCons (eVar 2) (aCons (eVar 1) aNil)))))
    (sRet (eVar 1))))
@[irreducible] noncomputable def m_together : List PyData → Rp := pureOf 3 b_together
noncomputable def b_neat : MS :=
    (sSeq (sAsg 1 (eC c_LETTER))
    (sSeq (sAsg 2 (eOwn (lDisp aNil)))
    (sSeq (sFor (mRev (eSlAny (eVar 0) (oSome (eC (.int 1))) oNone)) (gNameM 3)
    (sSeq (sAsg 4 (eCallP 2 m_put (aCons (eVar 3) (aCons (eVar 1) aNil))))
    (sSeq (sAsg 5 (eCallP 2 m_fraction_at (aCons (eVar 4) (aCons (eC (.int 0)) aNil))))
    (sSeq (sAsg 1 (eCallP 2 m_straight (aCons (eCallP 1 m_lead (aCons (eVar 4) aNil)) (aCons (eVar 5) aNil))))
    (sDrop (eMethL mAppend (eVar 2) (aCons (eCallP 2 m_scaled (aCons (eCallP 2 m_minus (aCons (eVar 4) (aCons (eCallP 1 m_poly (aCons (eFrz (lDisp (aCons (eVar 5) aNil))) aNil)) aNil))) (aCons (eCallP 2 m_divided (aCons (eTup (aCons (eC (.int 1)) (aCons (eC (.int 1)) aNil))) (aCons (eCallP 1 m_lead (aCons (eVar 4) aNil)) aNil))) aNil))) aNil)))))))
    (sSeq (sDrop (eMethL mAppend (eVar 2) (aCons (eCallP 2 m_put (aCons (eOp fIx (eVar 0) (eC (.int 0))) (aCons (eVar 1) aNil))) aNil)))
    (sRet (eTupRev (eVar 2)))))))
@[irreducible] noncomputable def m_neat : List PyData → Rp := pureOf 6 b_neat
noncomputable def b_L_fits : MS :=
    (sSeq (sFor (mAny (eVar 0)) (gNameM 1)
    (sIf (bTest (eOp fGe (eCB cMaxL (aCons (eOp fAddA (eFrz (lLc (mAny (eOp fIx (eVar 1) (eC (.int 0)))) (([(("_law_top" : Str), 2)] : List (Str × Nat)).map (·.2)) (gNameM 2) bYes (eCB cAbs (aCons (eVar 2) aNil)))) (eFrz (lDisp (aCons (eOp fIx (eVar 1) (eC (.int 1))) aNil)))) aNil)) (eOp fPow (eC (.int 10)) (eC (.int 40)))))
    (sRet (eC (.bool false)))
    sNext))
    (sRet (eC (.bool true))))
@[irreducible] noncomputable def m_L_fits : List PyData → Rp := pureOf 3 b_L_fits
noncomputable def b_L_neat_of : MS :=
    (sSeq (sAsg 1 (eTup (aCons (eTup (aCons (eC (.int 0)) (aCons (eC (.int 1)) aNil))) (aCons (eC (.int 1)) aNil))))
    (sSeq (sAsg 2 (eTup aNil))
    (sSeq (sFor (mRev (eSlAny (eVar 0) (oSome (eC (.int 1))) oNone)) (gNameM 3)
    (sSeq (sAsg 4 (eCallP 2 m_L_of (aCons (eVar 3) (aCons (eVar 1) aNil))))
    (sSeq (sPar 5 6 (aCons (eCallP 2 m_L_at_2 (aCons (eVar 4) (aCons (eOp fSub (eCB cLen (aCons (eOp fIx (eVar 4) (eC (.int 0))) aNil)) (eC (.int 1))) aNil))) (aCons (eCallP 2 m_L_at_2 (aCons (eVar 4) (aCons (eC (.int 0)) aNil))) aNil)))
    (sSeq (sAsg 1 (eCallP 2 m_L_straight (aCons (eVar 5) (aCons (eVar 6) aNil))))
    (sSeq (sAsg 7 (eCallP 2 m_L_sum (aCons (eVar 4) (aCons (eCallP 2 m_L_poly (aCons (eFrz (lDisp (aCons (eOp fSub (eC (.int 0)) (eOp fIx (eVar 6) (eC (.int 0)))) aNil))) (aCons (eOp fIx (eVar 6) (eC (.int 1))) aNil))) aNil))))
    (sSeq (sAsg 8 (eCallP 2 m_L_fraction (aCons (eOp fIx (eVar 5) (eC (.int 1))) (aCons (eOp fIx (eVar 5) (eC (.int 0))) aNil))))
    (sAsg 2 (eOp fAddA (eTup (aCons (eCallP 2 m_L_times (aCons (eVar 7) (aCons (eCallP 2 m_L_poly (aCons (eFrz (lDisp (aCons (eOp fIx (eVar 8) (eC (.int 0))) aNil))) (aCons (eOp fIx (eVar 8) (eC (.int 1))) aNil))) aNil))) aNil)) (eVar 2)))))))))
    (sRet (eOp fAddA (eTup (aCons (eCallP 2 m_L_of (aCons (eOp fIx (eVar 0) (eC (.int 0))) (aCons (eVar 1) aNil))) aNil)) (eVar 2))))))
@[irreducible] noncomputable def m_L_neat_of : List PyData → Rp := pureOf 9 b_L_neat_of
noncomputable def b_L_row_of_sizes : MS :=
    (sSeq (sAsg 1 (eFrz (lDisp (aCons (eTup (aCons (eC (.int 2)) (aCons (eC (.int 2)) aNil))) (aCons (eTup (aCons (eC (.int 2)) (aCons (eC (.int 3)) aNil))) (aCons (eTup (aCons (eC (.int 3)) (aCons (eC (.int 2)) aNil))) (aCons (eTup (aCons (eC (.int 2)) (aCons (eC (.int 2)) aNil))) (aCons (eTup (aCons (eC (.int 4)) aNil)) (aCons (eTup (aCons (eC (.int 5)) aNil)) (aCons (eTup (aCons (eC (.int 6)) aNil)) (aCons (eTup (aCons (eC (.int 3)) aNil)) aNil)))))))))))
    (sSeq (sIf (bTest (eOp (opEq false) (eCallF 2 m_L_pick (aCons (eVar 0) (aCons (eC (.int 6)) aNil))) (eC (.int 0))))
    (sSeq (sAsg 1 (eFrz (lDisp (aCons (eTup (aCons (eC (.int 2)) (aCons (eC (.int 2)) (aCons (eC (.int 2)) aNil)))) (aCons (eTup (aCons (eC (.int 2)) (aCons (eC (.int 2)) (aCons (eC (.int 3)) aNil)))) (aCons (eTup (aCons (eC (.int 2)) (aCons (eC (.int 3)) (aCons (eC (.int 2)) aNil)))) (aCons (eTup (aCons (eC (.int 3)) (aCons (eC (.int 2)) (aCons (eC (.int 2)) aNil)))) (aCons (eTup (aCons (eC (.int 3)) (aCons (eC (.int 3)) aNil))) (aCons (eTup (aCons (eC (.int 2)) (aCons (eC (.int 4)) aNil))) (aCons (eTup (aCons (eC (.int 4)) (aCons (eC (.int 2)) aNil))) (aCons (eTup (aCons (eC (.int 2)) (aCons (eC (.int 5)) aNil))) (aCons (eTup (aCons (eC (.int 5)) (aCons (eC (.int 2)) aNil))) (aCons (eTup (aCons (eC (.int 4)) (aCons (eC (.int 3)) aNil))) (aCons (eTup (aCons (eC (.int 3)) (aCons (eC (.int 4)) aNil))) aNil))))))))))))))
    (sAsg 1 (eOp fAddA (eVar 1) (eFrz (lDisp (aCons (eTup (aCons (eC (.int 2)) (aCons (eC (.int 6)) aNil))) (aCons (eTup (aCons (eC (.int 6)) (aCons (eC (.int 2)) aNil))) (aCons (eTup (aCons (eC (.int 12)) aNil)) (aCons (eTup (aCons (eC (.int 8)) aNil)) (aCons (eTup (aCons (eC (.int 9)) aNil)) (aCons (eTup (aCons (eC (.int 10)) aNil)) (aCons (eTup (aCons (eC (.int 11)) aNil)) (aCons (eTup (aCons (eC (.int 7)) aNil)) (aCons (eTup (aCons (eC (.int 2)) aNil)) aNil))))))))))))))
    sNext)
    (sRet (eOp fIx (eVar 1) (eCallF 2 m_L_pick (aCons (eVar 0) (aCons (eCB cLen (aCons (eVar 1) aNil)) aNil)))))))
@[irreducible] noncomputable def m_L_row_of_sizes : List PyData → Fl → Rf := flowOf 2 b_L_row_of_sizes
noncomputable def b_L_any_layers : MS :=
    (sRet (eCB cTupOf (aCons (eFrz (lLc (mAny (eCallF 1 m_L_row_of_sizes (aCons (eVar 0) aNil))) (([(("_law_size" : Str), 1)] : List (Str × Nat)).map (·.2)) (gNameM 1) bYes (eCallF 3 m_L_any_poly (aCons (eVar 0) (aCons (eVar 1) (aCons (eC (.int 5)) aNil)))))) aNil)))
@[irreducible] noncomputable def m_L_any_layers : List PyData → Fl → Rf := flowOf 2 b_L_any_layers
noncomputable def b_L_put_between : MS :=
    (sSeq (sAsg 2 (eOwn (lCB cListOf (aCons (eVar 1) aNil))))
    (sSeq (sFor (mR1 (aCons (eOp fSub (eCB cLen (aCons (eVar 2) aNil)) (eC (.int 1))) aNil)) (gNameM 3)
    (sSeq (sAsg 4 (eCallF 2 m_L_any_straight (aCons (eVar 0) (aCons (eC (.int 3)) aNil))))
    (sSeq (sAsgG (eCallP 2 m_L_of (aCons (eOp fIx (eVar 2) (eVar 3)) (aCons (eVar 4) aNil))) (gSubM (eVar 2) (eVar 3)))
    (sAsgG (eCallP 2 m_L_of (aCons (eCallP 1 m_L_turned_back (aCons (eVar 4) aNil)) (aCons (eOp fIx (eVar 2) (eOp fAddA (eVar 3) (eC (.int 1)))) aNil))) (gSubM (eVar 2) (eOp fAddA (eVar 3) (eC (.int 1))))))))
    (sRet (eCB cTupOf (aCons (eVar 2) aNil)))))
@[irreducible] noncomputable def m_L_put_between : List PyData → Fl → Rf := flowOf 5 b_L_put_between
noncomputable def b_L_right_24 : MS :=
    (sSeq (sIf (bNot (bTru (eCallP 1 m_L_fits (aCons (eVar 1) aNil))))
    (sRet (eC (.bool true)))
    sNext)
    (sSeq (sAsg 2 (eCallP 1 m_L_neat_of (aCons (eVar 1) aNil)))
    (sSeq (sAsg 3 (eCallP 1 m_L_together (aCons (eVar 1) aNil)))
    (sSeq (sIf (bOr (bNot (bTru (eCallP 2 (m_L_alike 8) (aCons (eCallP 1 m_together (aCons (eVar 1) aNil)) (aCons (eVar 3) aNil))))) (bNot (bTru (eCallP 2 (m_L_alike 8) (aCons (eCallP 1 m_neat (aCons (eVar 1) aNil)) (aCons (eVar 2) aNil))))))
    (sRet (eC (.bool false)))
    sNext)
    (sSeq (sAsg 4 (eCallF 2 m_L_put_between (aCons (eVar 0) (aCons (eVar 1) aNil))))
    (sSeq (sIf (bNot (bTru (eCallP 1 m_L_fits (aCons (eVar 4) aNil))))
    (sAsg 4 (eVar 1))
    sNext)
    (sSeq (sIf (bOr (bNot (bTru (eCallP 2 (m_L_alike 8) (aCons (eCallP 1 m_together (aCons (eVar 4) aNil)) (aCons (eVar 3) aNil))))) (bNot (bTru (eCallP 2 (m_L_alike 8) (aCons (eCallP 1 m_neat (aCons (eVar 4) aNil)) (aCons (eVar 2) aNil))))))
    (sRet (eC (.bool false)))
    sNext)
    (sRet (eAndV (eCallP 2 (m_L_alike 8) (aCons (eCallP 1 m_together (aCons (eVar 2) aNil)) (aCons (eVar 3) aNil))) (eCallP 2 (m_L_alike 8) (aCons (eCallP 1 m_neat (aCons (eVar 2) aNil)) (aCons (eVar 2) aNil))))))))))))
@[irreducible] noncomputable def m_L_right_24 : List PyData → Fl → Rf := flowOf 5 b_L_right_24
noncomputable def b_law_k35 : MS :=
    (sSeq (sAsg 2 (if true = true then eFrz (lLc (mR1 (aCons (eC (.int 2)) aNil)) (([(("_law_k" : Str), 3)] : List (Str × Nat)).map (·.2)) (gNameM 3) bYes (eCallF 1 m_L_any_layers (aCons (eVar 1) aNil))) else eOwn (lLc (mR1 (aCons (eC (.int 2)) aNil)) (([(("_law_k" : Str), 3)] : List (Str × Nat)).map (·.2)) (gNameM 3) bYes (eCallF 1 m_L_any_layers (aCons (eVar 1) aNil)))))
    (sRet (eCB cAll (aCons (eFrz (lLc (mAny (eOp fAddA (eVar 2) (eSlAny (eVar 2) oNone (oSome (eC (.int 1)))))) (([(("_law_chain" : Str), 4)] : List (Str × Nat)).map (·.2)) (gNameM 4) bYes (eCallF 2 m_L_right_24 (aCons (eVar 1) (aCons (eVar 4) aNil))))) aNil))))
noncomputable def b_turned : MS :=
    (sSeq (sAsg 2 (eTup (aCons (eTup (aCons (eC (.int 2)) aNil)) (aCons (eC (.int 1)) aNil))))
    (sSeq (sAsg 3 (eC c_LETTER))
    (sSeq (sFor (mR1 (aCons (eVar 0) aNil)) (gNameM 4)
    (sPar 2 3 (aCons (eVar 3) (aCons (eCallP 2 m_minus (aCons (eCallP 2 m_times (aCons (eC c_LETTER) (aCons (eVar 3) aNil))) (aCons (eCallP 2 m_scaled (aCons (eVar 2) (aCons (eVar 1) aNil))) aNil))) aNil))))
    (sRet (eVar 2)))))
@[irreducible] noncomputable def m_turned : List PyData → Rp := pureOf 5 b_turned
noncomputable def b_L_two_degrees : MS :=
    (sRet (eOp fIx (eFrz (lDisp (aCons (eTup (aCons (eC (.int 2)) (aCons (eC (.int 3)) aNil))) (aCons (eTup (aCons (eC (.int 3)) (aCons (eC (.int 2)) aNil))) (aCons (eTup (aCons (eC (.int 2)) (aCons (eC (.int 5)) aNil))) (aCons (eTup (aCons (eC (.int 5)) (aCons (eC (.int 2)) aNil))) (aCons (eTup (aCons (eC (.int 3)) (aCons (eC (.int 4)) aNil))) (aCons (eTup (aCons (eC (.int 4)) (aCons (eC (.int 3)) aNil))) aNil)))))))) (eCallF 2 m_L_pick (aCons (eVar 0) (aCons (eC (.int 6)) aNil)))))
@[irreducible] noncomputable def m_L_two_degrees : List PyData → Fl → Rf := flowOf 1 b_L_two_degrees
noncomputable def b_L_raised_2 : MS :=
    (sRet (eTup (aCons (eCallP 2 m_L_grown (aCons (eOp fIx (eVar 0) (eC (.int 0))) (aCons (eVar 1) aNil))) (aCons (eCallP 2 m_L_grown (aCons (eOp fIx (eVar 0) (eC (.int 1))) (aCons (eVar 1) aNil))) aNil))))
@[irreducible] noncomputable def m_L_raised_2 : List PyData → Rp := pureOf 2 b_L_raised_2
noncomputable def b_L_worked_2 : MS :=
    (sSeq (sAsg 2 (eTup (aCons (eC (.int 0)) (aCons (eC (.int 1)) aNil))))
    (sSeq (sFor (mRev (eOp fIx (eVar 0) (eC (.int 0)))) (gNameM 3)
    (sAsg 2 (eCallP 2 m_L_added (aCons (eCallP 2 m_L_product (aCons (eVar 2) (aCons (eVar 1) aNil))) (aCons (eCallP 2 m_L_fraction (aCons (eVar 3) (aCons (eOp fIx (eVar 0) (eC (.int 1))) aNil))) aNil)))))
    (sRet (eVar 2))))
@[irreducible] noncomputable def m_L_worked_2 : List PyData → Rp := pureOf 4 b_L_worked_2
noncomputable def b_L_right_27 : MS :=
    (sSeq (sAsg 3 (eCallP 2 m_turned (aCons (eVar 0) (aCons (eVar 1) aNil))))
    (sSeq (sAsg 4 (eTup (aCons (eTup (aCons (eC (.int 2)) aNil)) (aCons (eC (.int 1)) aNil))))
    (sSeq (sIf (bTest (eOp fGt (eVar 0) (eC (.int 0))))
    (sAsg 4 (eCallP 2 m_L_turning (aCons (eVar 0) (aCons (eVar 1) aNil))))
    sNext)
    (sSeq (sIf (bNot (bTru (eCallP 2 (m_L_alike_3 8) (aCons (eVar 3) (aCons (eVar 4) aNil)))))
    (sRet (eC (.bool false)))
    sNext)
    (sSeq (sAsg 5 (eCallP 2 m_L_divided (aCons (eVar 1) (aCons (eVar 2) aNil))))
    (sRet (eOp (opEq false) (eCallP 2 m_L_worked_2 (aCons (eVar 3) (aCons (eCallP 2 m_L_added (aCons (eVar 2) (aCons (eVar 5) aNil))) aNil))) (eCallP 2 m_L_added (aCons (eCallP 2 m_L_raised_2 (aCons (eVar 2) (aCons (eVar 0) aNil))) (aCons (eCallP 2 m_L_raised_2 (aCons (eVar 5) (aCons (eVar 0) aNil))) aNil))))))))))
@[irreducible] noncomputable def m_L_right_27 : List PyData → Rp := pureOf 6 b_L_right_27
noncomputable def b_law_k48 : MS :=
    (sSeq (sAsg 2 (eOwn (lDisp aNil)))
    (sSeq (sFor (mR1 (aCons (eC (.int 2)) aNil)) (gNameM 3)
    (sSeq (sAsg 4 (eCallF 2 m_L_any_fraction (aCons (eVar 1) (aCons (eC (.int 5)) aNil))))
    (sDrop (eMethL mAppend (eVar 2) (aCons (eTup (aCons (eCallF 2 m_L_pick (aCons (eVar 1) (aCons (eC (.int 13)) aNil))) (aCons (eCallF 2 m_L_any_fraction (aCons (eVar 1) (aCons (eC (.int 9)) aNil))) (aCons (eOp fIx (eFrz (lDisp (aCons (eVar 4) (aCons (eTup (aCons (eC (.int 1)) (aCons (eC (.int 2)) aNil))) aNil)))) (eCB cInt (aCons (eOp (opEq false) (eOp fIx (eVar 4) (eC (.int 0))) (eC (.int 0))) aNil))) aNil)))) aNil)))))
    (sSeq (sAsg 5 (eFrz (lDisp (aCons (eTup (aCons (eOp fIx (eOp fIx (eVar 2) (eC (.int 0))) (eC (.int 0))) (aCons (eOp fIx (eOp fIx (eVar 2) (eC (.int 1))) (eC (.int 1))) (aCons (eOp fIx (eOp fIx (eVar 2) (eC (.int 0))) (eC (.int 2))) aNil)))) (aCons (eTup (aCons (eOp fIx (eOp fIx (eVar 2) (eC (.int 1))) (eC (.int 0))) (aCons (eOp fIx (eOp fIx (eVar 2) (eC (.int 0))) (eC (.int 1))) (aCons (eOp fIx (eOp fIx (eVar 2) (eC (.int 0))) (eC (.int 2))) aNil)))) aNil)))))
    (sSeq (sFor (mAny (eOp fAddA (eOp fAddA (eVar 2) (eVar 5)) (eSlAny (eVar 2) oNone (oSome (eC (.int 1)))))) (gTupM 3 (gConsM (gNameM 6) (gConsM (gNameM 7) (gConsM (gNameM 4) gNilM))))
    (sIf (bNot (bTru (eCallP 3 m_L_right_27 (aCons (eVar 6) (aCons (eVar 7) (aCons (eVar 4) aNil))))))
    (sRet (eC (.bool false)))
    sNext))
    (sSeq (sAsgG (eCallF 1 m_L_two_degrees (aCons (eVar 1) aNil)) (gTupM 2 (gConsM (gNameM 8) (gConsM (gNameM 3) gNilM))))
    (sSeq (sAsg 7 (eOp fIx (eOp fIx (eVar 2) (eC (.int 0))) (eC (.int 1))))
    (sRet (eOp (opEq false) (eCallP 2 m_L_of (aCons (eCallP 2 m_turned (aCons (eVar 8) (aCons (eCallP 2 m_L_raised_2 (aCons (eVar 7) (aCons (eVar 3) aNil))) aNil))) (aCons (eCallP 2 m_turned (aCons (eVar 3) (aCons (eVar 7) aNil))) aNil))) (eCallP 2 m_turned (aCons (eOp fMulA (eVar 8) (eVar 3)) (aCons (eVar 7) aNil)))))))))))
noncomputable def b_letter_power : MS :=
    (sRet (eCallP 2 m_over (aCons (eOp fAddA (eOp fMulA (eFrz (lDisp (aCons (eC (.int 0)) aNil))) (eVar 0)) (eFrz (lDisp (aCons (eC (.int 1)) aNil)))) (aCons (eC (.int 1)) aNil))))
@[irreducible] noncomputable def m_letter_power : List PyData → Rp := pureOf 1 b_letter_power
noncomputable def b_four_of : MS :=
    (sSeq (sIf (bTest (eOp (opEq false) (eOp fIx (eVar 0) (eC (.int 0))) (eC (.str ("turned" : Str)))))
    (sSeq (sAsg 3 (eOp fIx (eVar 0) (eC (.int 1))))
    (sSeq (sAsg 4 (eCallP 2 m_turned (aCons (eVar 1) (aCons (eTup (aCons (eCallP 2 m_raised (aCons (eOp fIx (eVar 3) (eC (.int 0))) (aCons (eVar 2) aNil))) (aCons (eCallP 2 m_raised (aCons (eOp fIx (eVar 3) (eC (.int 1))) (aCons (eVar 2) aNil))) aNil))) aNil))))
    (sRet (eTup (aCons (eVar 4) (aCons (eCallP 2 m_turned (aCons (eVar 2) (aCons (eVar 3) aNil))) (aCons (eCallP 2 m_turned (aCons (eVar 2) (aCons (eTup (aCons (eCallP 2 m_raised (aCons (eOp fIx (eVar 3) (eC (.int 0))) (aCons (eVar 1) aNil))) (aCons (eCallP 2 m_raised (aCons (eOp fIx (eVar 3) (eC (.int 1))) (aCons (eVar 1) aNil))) aNil))) aNil))) (aCons (eCallP 2 m_turned (aCons (eVar 1) (aCons (eVar 3) aNil))) aNil))))))))
    sNext)
    (sSeq (sAsgG (eVar 0) (gTupM 4 (gConsM (gNameM 5) (gConsM (gNameM 6) (gConsM (gNameM 7) (gConsM (gNameM 8) gNilM))))))
    (sSeq (sAsg 9 (eCallP 1 m_letter_power (aCons (eVar 7) aNil)))
    (sSeq (sIf (bTest (eOp (opEq false) (eVar 6) (eC (.int 0))))
    (sSeq (sAsg 10 (eCallP 2 m_times (aCons (eVar 9) (aCons (eCallP 2 m_put (aCons (eVar 8) (aCons (eCallP 1 m_letter_power (aCons (eVar 2) aNil)) aNil))) aNil))))
    (sRet (eTup (aCons (eCallP 2 m_times (aCons (eVar 9) (aCons (eCallP 2 m_power (aCons (eVar 8) (aCons (eVar 2) aNil))) aNil))) (aCons (eCallP 1 m_letter_power (aCons (eVar 2) aNil)) (aCons (eCallP 1 m_letter_power (aCons (eVar 2) aNil)) (aCons (eVar 10) aNil)))))))
    sNext)
    (sSeq (sAsg 10 (eCallP 2 m_times (aCons (eVar 9) (aCons (eCallP 2 m_put (aCons (eVar 8) (aCons (eCallP 1 m_letter_power (aCons (eVar 1) aNil)) aNil))) aNil))))
    (sRet (eTup (aCons (eCallP 1 m_letter_power (aCons (eVar 1) aNil)) (aCons (eVar 10) (aCons (eCallP 2 m_times (aCons (eVar 9) (aCons (eCallP 2 m_power (aCons (eVar 8) (aCons (eVar 1) aNil))) aNil))) (aCons (eCallP 1 m_letter_power (aCons (eVar 1) aNil)) aNil)))))))))))
@[irreducible] noncomputable def m_four_of : List PyData → Rp := pureOf 11 b_four_of
noncomputable def b_picked : MS :=
    (sRet (eCallP 1 m_poly (aCons (eFrz (lLc (mR3 (aCons (eVar 1) (aCons (eOp fAddA (eCallP 1 m_degree (aCons (eVar 0) aNil)) (eC (.int 1))) (aCons (eVar 2) aNil)))) (([(("at" : Str), 3)] : List (Str × Nat)).map (·.2)) (gNameM 3) bYes (eCallP 2 m_fraction_at (aCons (eVar 0) (aCons (eVar 3) aNil))))) aNil)))
@[irreducible] noncomputable def m_picked : List PyData → Rp := pureOf 4 b_picked
noncomputable def b_outside : MS :=
    (sSeq (sAsg 2 (eCallP 2 m_divided (aCons (eCallP 1 m_lead (aCons (eVar 0) aNil)) (aCons (eCallP 1 m_lead (aCons (eVar 1) aNil)) aNil))))
    (sSeq (sAsg 3 (eCallP 2 m_taken (aCons (eCallP 2 m_fraction_at (aCons (eVar 0) (aCons (eC (.int 0)) aNil))) (aCons (eCallP 2 m_multiplied (aCons (eVar 2) (aCons (eCallP 2 m_fraction_at (aCons (eVar 1) (aCons (eC (.int 0)) aNil))) aNil))) aNil))))
    (sRet (eCallP 1 m_turned_back (aCons (eCallP 2 m_straight (aCons (eVar 2) (aCons (eVar 3) aNil))) aNil)))))
@[irreducible] noncomputable def m_outside : List PyData → Rp := pureOf 4 b_outside
noncomputable def b_sort_of : MS :=
    (sSeq (sAsg 2 (eCallP 1 m_degree (aCons (eVar 0) aNil)))
    (sSeq (sAsg 3 (eCallP 1 m_degree (aCons (eVar 1) aNil)))
    (sSeq (sIf (bTest (eOp (opEq false) (eVar 0) (eCallP 1 m_letter_power (aCons (eVar 2) aNil))))
    (sRet (eTup (aCons (eC (.str ("powers" : Str))) (aCons (eC (.int 0)) (aCons (eOp fMod (eVar 3) (eVar 2)) (aCons (eCallP 3 m_picked (aCons (eVar 1) (aCons (eOp fMod (eVar 3) (eVar 2)) (aCons (eVar 2) aNil)))) aNil))))))
    sNext)
    (sSeq (sIf (bTest (eOp (opEq false) (eVar 1) (eCallP 1 m_letter_power (aCons (eVar 3) aNil))))
    (sRet (eTup (aCons (eC (.str ("powers" : Str))) (aCons (eC (.int 1)) (aCons (eOp fMod (eVar 2) (eVar 3)) (aCons (eCallP 3 m_picked (aCons (eVar 0) (aCons (eOp fMod (eVar 2) (eVar 3)) (aCons (eVar 3) aNil)))) aNil))))))
    sNext)
    (sRet (eTup (aCons (eC (.str ("turned" : Str))) (aCons (eCallP 2 m_divided (aCons (eCallP 2 m_fraction_at (aCons (eVar 0) (aCons (eOp fSub (eVar 2) (eC (.int 2))) aNil))) (aCons (eTup (aCons (eOp fSub (eC (.int 0)) (eVar 2)) (aCons (eC (.int 1)) aNil))) aNil))) aNil))))))))
@[irreducible] noncomputable def m_sort_of : List PyData → Rp := pureOf 4 b_sort_of
def c_NONE_AT_ALL : PyData := .tuple [.int 0, .int 1]
noncomputable def b_kind : MS :=
    (sSeq (sAsg 2 (eCallP 1 m_degree (aCons (eVar 0) aNil)))
    (sSeq (sAsg 3 (eCallP 1 m_degree (aCons (eVar 1) aNil)))
    (sSeq (sIf (bTest (eOp fGt (eCallP 2 m_common_part (aCons (eVar 2) (aCons (eVar 3) aNil))) (eC (.int 1))))
    (sRet (eC .none))
    sNext)
    (sSeq (sAsg 4 (eCallP 2 m_apart (aCons (eCallP 2 m_put (aCons (eVar 0) (aCons (eVar 1) aNil))) (aCons (eVar 2) aNil))))
    (sSeq (sIf (bTest (eOp (opEq true) (eOp fIx (eVar 4) (eC (.int 0))) (eC (.str ("made" : Str)))))
    (sRet (eC .none))
    sNext)
    (sSeq (sAsgG (eCallP 1 m_plain (aCons (eVar 1) aNil)) (gTupM 3 (gConsM (gNameM 5) (gConsM (gNameM 6) (gConsM (gNameM 7) gNilM)))))
    (sSeq (sAsgG (eCallP 1 m_plain (aCons (eOp fIx (eVar 4) (eC (.int 2))) aNil)) (gTupM 3 (gConsM (gNameM 8) (gConsM (gNameM 9) (gConsM (gNameM 10) gNilM)))))
    (sSeq (sAsg 11 (eCallP 2 m_sort_of (aCons (eVar 6) (aCons (eVar 9) aNil))))
    (sSeq (sAsg 12 (eCallP 3 m_four_of (aCons (eVar 11) (aCons (eVar 2) (aCons (eVar 3) aNil)))))
    (sSeq (sAsg 13 (eCallP 2 m_put (aCons (eVar 5) (aCons (eCallP 2 m_straight (aCons (eC c_ONCE) (aCons (eCallP 2 m_taken (aCons (eC c_NONE_AT_ALL) (aCons (eCallP 2 m_fraction_at (aCons (eOp fIx (eVar 12) (eC (.int 1))) (aCons (eC (.int 0)) aNil))) aNil))) aNil))) aNil))))
    (sSeq (sAsg 14 (eCallP 2 m_put (aCons (eVar 8) (aCons (eCallP 2 m_straight (aCons (eC c_ONCE) (aCons (eCallP 2 m_taken (aCons (eC c_NONE_AT_ALL) (aCons (eCallP 2 m_fraction_at (aCons (eOp fIx (eVar 12) (eC (.int 3))) (aCons (eC (.int 0)) aNil))) aNil))) aNil))) aNil))))
    (sRet (eTup (aCons (eVar 11) (aCons (eTup (aCons (eCallP 2 m_outside (aCons (eCallP 2 m_put (aCons (eVar 0) (aCons (eVar 13) aNil))) (aCons (eOp fIx (eVar 12) (eC (.int 0))) aNil))) (aCons (eVar 13) (aCons (eCallP 1 m_turned_back (aCons (eVar 7) aNil)) (aCons (eVar 14) aNil))))) aNil)))))))))))))))
@[irreducible] noncomputable def m_kind : List PyData → Rp := pureOf 15 b_kind
noncomputable def b_L_four : MS :=
    (sSeq (sIf (bTest (eOp (opEq false) (eOp fIx (eVar 0) (eC (.int 0))) (eC (.str ("turned" : Str)))))
    (sSeq (sAsg 3 (eOp fIx (eVar 0) (eC (.int 1))))
    (sSeq (sAsg 4 (eTup (aCons (eCallP 2 m_L_grown (aCons (eOp fIx (eVar 3) (eC (.int 0))) (aCons (eVar 2) aNil))) (aCons (eCallP 2 m_L_grown (aCons (eOp fIx (eVar 3) (eC (.int 1))) (aCons (eVar 2) aNil))) aNil))))
    (sSeq (sAsg 5 (eTup (aCons (eCallP 2 m_L_grown (aCons (eOp fIx (eVar 3) (eC (.int 0))) (aCons (eVar 1) aNil))) (aCons (eCallP 2 m_L_grown (aCons (eOp fIx (eVar 3) (eC (.int 1))) (aCons (eVar 1) aNil))) aNil))))
    (sSeq (sAsg 6 (eTup (aCons (eCallP 2 m_L_turning (aCons (eVar 1) (aCons (eVar 4) aNil))) (aCons (eCallP 2 m_L_turning (aCons (eVar 2) (aCons (eVar 3) aNil))) aNil))))
    (sRet (eOp fAddA (eVar 6) (eTup (aCons (eCallP 2 m_L_turning (aCons (eVar 2) (aCons (eVar 5) aNil))) (aCons (eCallP 2 m_L_turning (aCons (eVar 1) (aCons (eVar 3) aNil))) aNil)))))))))
    sNext)
    (sSeq (sAsg 7 (eCallP 1 m_L_letter_2 (aCons (eOp fIx (eVar 0) (eC (.int 2))) aNil)))
    (sSeq (sAsg 8 (eOp fIx (eFrz (lDisp (aCons (eVar 2) (aCons (eVar 1) aNil)))) (eOp fIx (eVar 0) (eC (.int 1)))))
    (sSeq (sAsg 9 (eCallP 2 m_L_times (aCons (eVar 7) (aCons (eCallP 2 m_L_of (aCons (eOp fIx (eVar 0) (eC (.int 3))) (aCons (eCallP 1 m_L_letter_2 (aCons (eVar 8) aNil)) aNil))) aNil))))
    (sSeq (sAsg 10 (eCallP 2 m_L_times (aCons (eVar 7) (aCons (eCallP 2 m_L_power (aCons (eOp fIx (eVar 0) (eC (.int 3))) (aCons (eVar 8) aNil))) aNil))))
    (sSeq (sIf (bTest (eOp (opEq false) (eOp fIx (eVar 0) (eC (.int 1))) (eC (.int 0))))
    (sRet (eTup (aCons (eVar 10) (aCons (eCallP 1 m_L_letter_2 (aCons (eVar 2) aNil)) (aCons (eCallP 1 m_L_letter_2 (aCons (eVar 2) aNil)) (aCons (eVar 9) aNil))))))
    sNext)
    (sRet (eTup (aCons (eCallP 1 m_L_letter_2 (aCons (eVar 1) aNil)) (aCons (eVar 9) (aCons (eVar 10) (aCons (eCallP 1 m_L_letter_2 (aCons (eVar 1) aNil)) aNil))))))))))))
@[irreducible] noncomputable def m_L_four : List PyData → Rp := pureOf 11 b_L_four
noncomputable def b_L_shows : MS :=
    (sSeq (sAsgG (eVar 4) (gTupM 2 (gConsM (gNameM 5) (gConsM (gTupM 4 (gConsM (gNameM 6) (gConsM (gNameM 7) (gConsM (gNameM 8) (gConsM (gNameM 9) gNilM))))) gNilM))))
    (sSeq (sAsg 10 (eTup (aCons (eCallP 2 m_L_of (aCons (eCallP 2 m_L_of (aCons (eVar 6) (aCons (eVar 0) aNil))) (aCons (eVar 7) aNil))) (aCons (eCallP 2 m_L_of (aCons (eCallP 2 m_L_of (aCons (eCallP 1 m_L_turned_back (aCons (eVar 7) aNil)) (aCons (eVar 1) aNil))) (aCons (eVar 8) aNil))) aNil))))
    (sSeq (sAsg 11 (eTup (aCons (eCallP 2 m_L_of (aCons (eCallP 2 m_L_of (aCons (eVar 6) (aCons (eVar 2) aNil))) (aCons (eVar 9) aNil))) (aCons (eCallP 2 m_L_of (aCons (eCallP 2 m_L_of (aCons (eCallP 1 m_L_turned_back (aCons (eVar 9) aNil)) (aCons (eVar 3) aNil))) (aCons (eVar 8) aNil))) aNil))))
    (sSeq (sAsg 10 (eOp fAddA (eVar 10) (eVar 11)))
    (sRet (eOp (opEq false) (eVar 10) (eCallP 3 m_L_four (aCons (eVar 5) (aCons (eOp fSub (eCB cLen (aCons (eOp fIx (eVar 0) (eC (.int 0))) aNil)) (eC (.int 1))) (aCons (eOp fSub (eCB cLen (aCons (eOp fIx (eVar 1) (eC (.int 0))) aNil)) (eC (.int 1))) aNil))))))))))
@[irreducible] noncomputable def m_L_shows : List PyData → Rp := pureOf 12 b_L_shows
noncomputable def b_L_kind_form : MS :=
    (sSeq (sIf (bOr (bNot (bTru (eIsi (eVar 0) "tuple"))) (bOr (bTest (eOp (opEq true) (eCB cLen (aCons (eVar 0) aNil)) (eC (.int 2)))) (bOr (bNot (bTru (eIsi (eOp fIx (eVar 0) (eC (.int 1))) "tuple"))) (bTest (eOp (opEq true) (eCB cLen (aCons (eOp fIx (eVar 0) (eC (.int 1))) aNil)) (eC (.int 4)))))))
    (sRet (eC (.bool false)))
    sNext)
    (sSeq (sIf (bNot (bTru (eCB cAll (aCons (eFrz (lLc (mAny (eOp fIx (eVar 0) (eC (.int 1)))) (([(("_law_l" : Str), 2)] : List (Str × Nat)).map (·.2)) (gNameM 2) bYes (eCallP 1 m_L_is_straight (aCons (eVar 2) aNil)))) aNil))))
    (sRet (eC (.bool false)))
    sNext)
    (sSeq (sAsg 1 (eOp fIx (eVar 0) (eC (.int 0))))
    (sSeq (sIf (bTest (eOp (opEq false) (eOp fIx (eVar 1) (eC (.int 0))) (eC (.str ("turned" : Str)))))
    (sRet (eAndV (eOp (opEq false) (eCB cLen (aCons (eVar 1) aNil)) (eC (.int 2))) (eOp (opEq true) (eOp fIx (eOp fIx (eVar 1) (eC (.int 1))) (eC (.int 0))) (eC (.int 0)))))
    sNext)
    (sSeq (sIf (bOr (bTest (eOp (opEq true) (eOp fIx (eVar 1) (eC (.int 0))) (eC (.str ("powers" : Str))))) (bTest (eOp (opEq true) (eCB cLen (aCons (eVar 1) aNil)) (eC (.int 4)))))
    (sRet (eC (.bool false)))
    sNext)
    (sRet (eAndV (eOp (fIn false) (eOp fIx (eVar 1) (eC (.int 1))) (eTup (aCons (eC (.int 0)) (aCons (eC (.int 1)) aNil)))) (eAndV (eOp fGt (eOp fIx (eVar 1) (eC (.int 2))) (eC (.int 0))) (eOp fGt (eCB cLen (aCons (eOp fIx (eOp fIx (eVar 1) (eC (.int 3))) (eC (.int 0))) aNil)) (eC (.int 0)))))))))))
@[irreducible] noncomputable def m_L_kind_form : List PyData → Rp := pureOf 3 b_L_kind_form
noncomputable def b_L_drawn_sort : MS :=
    (sSeq (sAsg 3 (eCallF 2 m_L_pick (aCons (eVar 0) (aCons (eC (.int 3)) aNil))))
    (sSeq (sIf (bTest (eOp (opEq false) (eVar 3) (eC (.int 2))))
    (sSeq (sAsg 4 (eCallF 2 m_L_any_fraction (aCons (eVar 0) (aCons (eC (.int 5)) aNil))))
    (sRet (eTup (aCons (eC (.str ("turned" : Str))) (aCons (eOp fIx (eFrz (lDisp (aCons (eVar 4) (aCons (eTup (aCons (eC (.int 1)) (aCons (eC (.int 1)) aNil))) aNil)))) (eCB cInt (aCons (eOp (opEq false) (eOp fIx (eVar 4) (eC (.int 0))) (eC (.int 0))) aNil))) aNil)))))
    sNext)
    (sSeq (sAsgG (eOp fIx (eFrz (lDisp (aCons (eTup (aCons (eVar 1) (aCons (eVar 2) aNil))) (aCons (eTup (aCons (eVar 2) (aCons (eVar 1) aNil))) aNil)))) (eVar 3)) (gTupM 2 (gConsM (gNameM 5) (gConsM (gNameM 6) gNilM))))
    (sSeq (sAsg 7 (eOp fMod (eVar 5) (eVar 6)))
    (sRet (eTup (aCons (eC (.str ("powers" : Str))) (aCons (eVar 3) (aCons (eVar 7) (aCons (eCallF 3 m_L_any_poly (aCons (eVar 0) (aCons (eOp fDiv (eVar 5) (eVar 6)) (aCons (eC (.int 4)) aNil)))) aNil))))))))))
@[irreducible] noncomputable def m_L_drawn_sort : List PyData → Fl → Rf := flowOf 8 b_L_drawn_sort
noncomputable def b_L_neighbours : MS :=
    (sSeq (sAsg 3 (eCallP 3 m_L_four (aCons (eCallF 3 m_L_drawn_sort (aCons (eVar 0) (aCons (eVar 1) (aCons (eVar 2) aNil)))) (aCons (eVar 1) (aCons (eVar 2) aNil)))))
    (sSeq (sAsgG (eFrz (lLc (mR1 (aCons (eC (.int 3)) aNil)) (([(("_law_j" : Str), 13)] : List (Str × Nat)).map (·.2)) (gNameM 13) bYes (eCallF 2 m_L_any_straight (aCons (eVar 0) (aCons (eC (.int 3)) aNil))))) (gSeqM 3 (gConsM (gNameM 4) (gConsM (gNameM 5) (gConsM (gNameM 6) gNilM)))))
    (sSeq (sAsg 7 (eCallP 2 m_L_of (aCons (eCallP 2 m_L_of (aCons (eVar 4) (aCons (eOp fIx (eVar 3) (eC (.int 0))) aNil))) (aCons (eCallP 1 m_L_turned_back (aCons (eVar 5) aNil)) aNil))))
    (sSeq (sAsg 8 (eCallP 2 m_L_of (aCons (eCallP 2 m_L_of (aCons (eVar 5) (aCons (eOp fIx (eVar 3) (eC (.int 1))) aNil))) (aCons (eVar 6) aNil))))
    (sSeq (sAsg 9 (eCallP 2 m_L_of (aCons (eOp fIx (eVar 3) (eC (.int 3))) (aCons (eVar 6) aNil))))
    (sSeq (sPar 10 11 (aCons (eCallP 2 m_L_at_2 (aCons (eVar 9) (aCons (eVar 1) aNil))) (aCons (eCallP 2 m_L_at_2 (aCons (eVar 9) (aCons (eC (.int 0)) aNil))) aNil)))
    (sSeq (sAsg 12 (eCallP 2 m_L_straight (aCons (eVar 10) (aCons (eVar 11) aNil))))
    (sRet (eTup (aCons (eVar 7) (aCons (eVar 8) (aCons (eCallP 2 m_L_of (aCons (eCallP 2 m_L_of (aCons (eVar 4) (aCons (eOp fIx (eVar 3) (eC (.int 2))) aNil))) (aCons (eVar 12) aNil))) (aCons (eCallP 2 m_L_of (aCons (eCallP 1 m_L_turned_back (aCons (eVar 12) aNil)) (aCons (eVar 9) aNil))) aNil)))))))))))))
@[irreducible] noncomputable def m_L_neighbours : List PyData → Fl → Rf := flowOf 14 b_L_neighbours
noncomputable def b_L_is_dressed_power : MS :=
    (sSeq (sAsg 1 (eOp fIx (eCallP 1 m_L_plain_told (aCons (eVar 0) aNil)) (eC (.int 1))))
    (sRet (eOp (opEq false) (eVar 1) (eCallP 1 m_L_letter_2 (aCons (eOp fSub (eCB cLen (aCons (eOp fIx (eVar 0) (eC (.int 0))) aNil)) (eC (.int 1))) aNil)))))
@[irreducible] noncomputable def m_L_is_dressed_power : List PyData → Rp := pureOf 2 b_L_is_dressed_power
noncomputable def b_L_right_28 : MS :=
    (sSeq (sAsgG (eVar 0) (gTupM 4 (gConsM (gNameM 1) (gConsM (gNameM 2) (gConsM (gNameM 3) (gConsM (gNameM 4) gNilM))))))
    (sSeq (sAsg 5 (eCallP 2 m_kind (aCons (eVar 1) (aCons (eVar 2) aNil))))
    (sSeq (sIf (bOr (bNot (bTru (eCallP 1 m_L_kind_form (aCons (eVar 5) aNil)))) (bNot (bTru (eCallP 5 m_L_shows (aCons (eVar 1) (aCons (eVar 2) (aCons (eVar 3) (aCons (eVar 4) (aCons (eVar 5) aNil)))))))))
    (sRet (eC (.bool false)))
    sNext)
    (sRet (eOp (opEq false) (eOp (opEq false) (eOp fIx (eOp fIx (eVar 5) (eC (.int 0))) (eC (.int 0))) (eC (.str ("powers" : Str)))) (eOrV (eCallP 1 m_L_is_dressed_power (aCons (eVar 2) aNil)) (eCallP 1 m_L_is_dressed_power (aCons (eVar 4) aNil))))))))
@[irreducible] noncomputable def m_L_right_28 : List PyData → Rp := pureOf 6 b_L_right_28
noncomputable def b_law_k49 : MS :=
    (sSeq (sAsg 2 (eOwn (lDisp aNil)))
    (sSeq (sFor (mR1 (aCons (eC (.int 2)) aNil)) (gNameM 3)
    (sSeq (sAsgG (eCallF 1 m_L_two_degrees (aCons (eVar 1) aNil)) (gTupM 2 (gConsM (gNameM 4) (gConsM (gNameM 5) gNilM))))
    (sDrop (eMethL mAppend (eVar 2) (aCons (eCallF 3 m_L_neighbours (aCons (eVar 1) (aCons (eVar 4) (aCons (eVar 5) aNil)))) aNil)))))
    (sRet (eCB cAll (aCons (eFrz (lLc (mAny (eOp fAddA (eVar 2) (eSlAny (eVar 2) oNone (oSome (eC (.int 1)))))) (([(("_law_four_here" : Str), 6)] : List (Str × Nat)).map (·.2)) (gNameM 6) (bTru (eCallP 1 m_L_short (aCons (eVar 6) aNil))) (eCallP 1 m_L_right_28 (aCons (eVar 6) aNil)))) aNil)))))
noncomputable def b_L_candidate_3 : MS :=
    (sSeq (sAsg 2 (eOp fSub (eCB cLen (aCons (eOp fIx (eVar 0) (eC (.int 0))) aNil)) (eC (.int 1))))
    (sSeq (sAsg 3 (eCallP 1 m_L_letter_2 (aCons (eVar 1) aNil)))
    (sSeq (sAsg 4 (eCallP 2 m_L_at_2 (aCons (eVar 0) (aCons (eVar 2) aNil))))
    (sSeq (sFor (mR2 (aCons (eC (.int 1)) (aCons (eVar 1) aNil))) (gNameM 5)
    (sSeq (sAsg 6 (eCallP 2 m_L_at_2 (aCons (eCallP 2 m_L_power (aCons (eVar 3) (aCons (eOp fDiv (eVar 2) (eVar 1)) aNil))) (aCons (eOp fSub (eVar 2) (eVar 5)) aNil))))
    (sSeq (sAsg 7 (eCallP 2 m_L_divided (aCons (eCallP 2 m_L_at_2 (aCons (eVar 0) (aCons (eOp fSub (eVar 2) (eVar 5)) aNil))) (aCons (eVar 4) aNil))))
    (sSeq (sAsg 8 (eCallP 2 m_L_divided (aCons (eCallP 2 m_L_added (aCons (eVar 7) (aCons (eTup (aCons (eOp fSub (eC (.int 0)) (eOp fIx (eVar 6) (eC (.int 0)))) (aCons (eOp fIx (eVar 6) (eC (.int 1))) aNil))) aNil))) (aCons (eTup (aCons (eOp fDiv (eVar 2) (eVar 1)) (aCons (eC (.int 1)) aNil))) aNil))))
    (sAsg 3 (eCallP 2 m_L_sum (aCons (eVar 3) (aCons (eCallP 2 m_L_times (aCons (eCallP 2 m_L_poly (aCons (eFrz (lDisp (aCons (eOp fIx (eVar 8) (eC (.int 0))) aNil))) (aCons (eOp fIx (eVar 8) (eC (.int 1))) aNil))) (aCons (eCallP 1 m_L_letter_2 (aCons (eOp fSub (eVar 1) (eVar 5)) aNil)) aNil))) aNil))))))))
    (sRet (eVar 3))))))
@[irreducible] noncomputable def m_L_candidate_3 : List PyData → Rp := pureOf 9 b_L_candidate_3
noncomputable def b_L_outer : MS :=
    (sSeq (sAsg 2 (eOp fSub (eCB cLen (aCons (eOp fIx (eVar 1) (eC (.int 0))) aNil)) (eC (.int 1))))
    (sSeq (sAsg 3 (eOwn (lDisp aNil)))
    (sSeq (sWhile (bTest (eOp fGt (eCB cLen (aCons (eOp fIx (eVar 0) (eC (.int 0))) aNil)) (eC (.int 0))))
    (sSeq (sAsg 4 (eOp fDiv (eOp fSub (eCB cLen (aCons (eOp fIx (eVar 0) (eC (.int 0))) aNil)) (eC (.int 1))) (eVar 2)))
    (sSeq (sIf (bTest (eOp fGt (eOp fMod (eOp fSub (eCB cLen (aCons (eOp fIx (eVar 0) (eC (.int 0))) aNil)) (eC (.int 1))) (eVar 2)) (eC (.int 0))))
    (sRet (eC .none))
    sNext)
    (sSeq (sAsg 5 (eCallP 2 m_L_at_2 (aCons (eVar 0) (aCons (eOp fMulA (eVar 4) (eVar 2)) aNil))))
    (sSeq (sAsg 0 (eCallP 2 m_L_sum (aCons (eVar 0) (aCons (eCallP 2 m_L_times (aCons (eCallP 2 m_L_power (aCons (eVar 1) (aCons (eVar 4) aNil))) (aCons (eCallP 2 m_L_poly (aCons (eFrz (lDisp (aCons (eOp fSub (eC (.int 0)) (eOp fIx (eVar 5) (eC (.int 0)))) aNil))) (aCons (eOp fIx (eVar 5) (eC (.int 1))) aNil))) aNil))) aNil))))
    (sDrop (eMethL mAppend (eVar 3) (aCons (eTup (aCons (eVar 4) (aCons (eVar 5) aNil))) aNil))))))))
    (sSeq (sAsg 6 (eTup (aCons (eTup aNil) (aCons (eC (.int 1)) aNil))))
    (sSeq (sFor (mAny (eVar 3)) (gTupM 2 (gConsM (gNameM 4) (gConsM (gNameM 5) gNilM)))
    (sAsg 6 (eCallP 2 m_L_sum (aCons (eVar 6) (aCons (eCallP 2 m_L_times (aCons (eCallP 1 m_L_letter_2 (aCons (eVar 4) aNil)) (aCons (eCallP 2 m_L_poly (aCons (eFrz (lDisp (aCons (eOp fIx (eVar 5) (eC (.int 0))) aNil))) (aCons (eOp fIx (eVar 5) (eC (.int 1))) aNil))) aNil))) aNil)))))
    (sRet (eVar 6)))))))
@[irreducible] noncomputable def m_L_outer : List PyData → Rp := pureOf 7 b_L_outer
noncomputable def b_L_drawn_8 : MS :=
    (sSeq (sAsg 1 (eCallF 2 m_L_pick (aCons (eVar 0) (aCons (eC (.int 3)) aNil))))
    (sSeq (sIf (bTest (eOp (opEq false) (eVar 1) (eC (.int 0))))
    (sSeq (sAsgG (eOp fIx (eFrz (lDisp (aCons (eTup (aCons (eC (.int 2)) (aCons (eC (.int 2)) aNil))) (aCons (eTup (aCons (eC (.int 2)) (aCons (eC (.int 4)) aNil))) (aCons (eTup (aCons (eC (.int 4)) (aCons (eC (.int 2)) aNil))) (aCons (eTup (aCons (eC (.int 3)) (aCons (eC (.int 3)) aNil))) (aCons (eTup (aCons (eC (.int 2)) (aCons (eC (.int 6)) aNil))) (aCons (eTup (aCons (eC (.int 6)) (aCons (eC (.int 2)) aNil))) aNil)))))))) (eCallF 2 m_L_pick (aCons (eVar 0) (aCons (eC (.int 6)) aNil)))) (gTupM 2 (gConsM (gNameM 2) (gConsM (gNameM 3) gNilM))))
    (sSeq (sIf (bTest (eOp (opEq false) (eCallF 2 m_L_pick (aCons (eVar 0) (aCons (eC (.int 3)) aNil))) (eC (.int 0))))
    (sRet (eTup (aCons (eCallF 3 m_L_any_poly (aCons (eVar 0) (aCons (eVar 2) (aCons (eC (.int 5)) aNil)))) (aCons (eCallF 3 m_L_any_poly (aCons (eVar 0) (aCons (eVar 3) (aCons (eC (.int 5)) aNil)))) aNil))))
    sNext)
    (sSeq (sAsg 4 (eTup (aCons (eC (.str ("turned" : Str))) (aCons (eCallP 2 m_L_fraction (aCons (eOp fAddA (eC (.int 1)) (eCallF 2 m_L_pick (aCons (eVar 0) (aCons (eC (.int 4)) aNil)))) (aCons (eOp fAddA (eC (.int 1)) (eCallF 2 m_L_pick (aCons (eVar 0) (aCons (eC (.int 2)) aNil)))) aNil))) aNil))))
    (sSeq (sIf (bTest (eOp (opEq false) (eCallF 2 m_L_pick (aCons (eVar 0) (aCons (eC (.int 2)) aNil))) (eC (.int 0))))
    (sAsg 4 (eTup (aCons (eC (.str ("powers" : Str))) (aCons (eC (.int 0)) (aCons (eVar 2) (aCons (eTup (aCons (eTup (aCons (eC (.int 1)) aNil)) (aCons (eC (.int 1)) aNil))) aNil))))))
    sNext)
    (sSeq (sAsg 5 (eCallP 3 m_L_four (aCons (eVar 4) (aCons (eVar 2) (aCons (eVar 3) aNil)))))
    (sSeq (sAsgG (eFrz (lLc (mR1 (aCons (eC (.int 3)) aNil)) (([(("_law_j" : Str), 13)] : List (Str × Nat)).map (·.2)) (gNameM 13) bYes (eCallF 2 m_L_any_straight (aCons (eVar 0) (aCons (eC (.int 3)) aNil))))) (gSeqM 3 (gConsM (gNameM 6) (gConsM (gNameM 7) (gConsM (gNameM 8) gNilM)))))
    (sRet (eTup (aCons (eCallP 2 m_L_of (aCons (eCallP 2 m_L_of (aCons (eVar 6) (aCons (eOp fIx (eVar 5) (eC (.int 0))) aNil))) (aCons (eCallP 1 m_L_turned_back (aCons (eVar 7) aNil)) aNil))) (aCons (eCallP 2 m_L_of (aCons (eCallP 2 m_L_of (aCons (eVar 7) (aCons (eOp fIx (eVar 5) (eC (.int 1))) aNil))) (aCons (eVar 8) aNil))) aNil))))))))))
    sNext)
    (sSeq (sAsgG (eCallF 1 m_L_two_degrees (aCons (eVar 0) aNil)) (gTupM 2 (gConsM (gNameM 2) (gConsM (gNameM 3) gNilM))))
    (sSeq (sIf (bTest (eOp (opEq false) (eVar 1) (eC (.int 1))))
    (sRet (eTup (aCons (eCallF 3 m_L_any_poly (aCons (eVar 0) (aCons (eVar 2) (aCons (eC (.int 5)) aNil)))) (aCons (eCallF 3 m_L_any_poly (aCons (eVar 0) (aCons (eVar 3) (aCons (eC (.int 5)) aNil)))) aNil))))
    sNext)
    (sSeq (sAsgG (eCallF 3 m_L_neighbours (aCons (eVar 0) (aCons (eVar 2) (aCons (eVar 3) aNil)))) (gTupM 4 (gConsM (gNameM 9) (gConsM (gNameM 10) (gConsM (gNameM 11) (gConsM (gNameM 12) gNilM))))))
    (sSeq (sIf (bTest (eOp (opEq false) (eCallF 2 m_L_pick (aCons (eVar 0) (aCons (eC (.int 2)) aNil))) (eC (.int 0))))
    (sRet (eTup (aCons (eCallP 2 m_L_sum (aCons (eVar 9) (aCons (eCallP 1 m_L_letter_2 (aCons (eCallF 2 m_L_pick (aCons (eVar 0) (aCons (eVar 2) aNil))) aNil)) aNil))) (aCons (eVar 10) aNil))))
    sNext)
    (sRet (eTup (aCons (eVar 9) (aCons (eCallP 2 m_L_sum (aCons (eVar 10) (aCons (eCallP 1 m_L_letter_2 (aCons (eCallF 2 m_L_pick (aCons (eVar 0) (aCons (eVar 3) aNil))) aNil)) aNil))) aNil))))))))))
@[irreducible] noncomputable def m_L_drawn_8 : List PyData → Fl → Rf := flowOf 14 b_L_drawn_8
noncomputable def b_L_right_29 : MS :=
    (sSeq (sPar 2 3 (aCons (eOp fSub (eCB cLen (aCons (eOp fIx (eVar 0) (eC (.int 0))) aNil)) (eC (.int 1))) (aCons (eOp fSub (eCB cLen (aCons (eOp fIx (eVar 1) (eC (.int 0))) aNil)) (eC (.int 1))) aNil)))
    (sSeq (sAsg 4 (eCallP 2 m_kind (aCons (eVar 0) (aCons (eVar 1) aNil))))
    (sSeq (sIf (bTest (eOp fGt (eCallP 2 m_L_common (aCons (eVar 2) (aCons (eVar 3) aNil))) (eC (.int 1))))
    (sRet (eOp (fIsN false) (eVar 4) (eC .none)))
    sNext)
    (sSeq (sAsg 5 (eCallP 2 m_L_of (aCons (eVar 0) (aCons (eVar 1) aNil))))
    (sSeq (sAsg 6 (eCallP 2 m_L_candidate_3 (aCons (eVar 5) (aCons (eVar 2) aNil))))
    (sSeq (sAsg 7 (eCallP 2 m_L_outer (aCons (eVar 5) (aCons (eVar 6) aNil))))
    (sSeq (sIf (bTest (eOp (fIsN false) (eVar 7) (eC .none)))
    (sRet (eOp (fIsN false) (eVar 4) (eC .none)))
    sNext)
    (sRet (eAndV (eCallP 1 m_L_kind_form (aCons (eVar 4) aNil)) (eCallP 5 m_L_shows (aCons (eVar 0) (aCons (eVar 1) (aCons (eVar 7) (aCons (eVar 6) (aCons (eVar 4) aNil)))))))))))))))
@[irreducible] noncomputable def m_L_right_29 : List PyData → Rp := pureOf 8 b_L_right_29
noncomputable def b_law_k50 : MS :=
    (sSeq (sAsg 2 (if false = true then eFrz (lLc (mR1 (aCons (eC (.int 2)) aNil)) (([(("_law_k" : Str), 5)] : List (Str × Nat)).map (·.2)) (gNameM 5) bYes (eCallF 1 m_L_drawn_8 (aCons (eVar 1) aNil))) else eOwn (lLc (mR1 (aCons (eC (.int 2)) aNil)) (([(("_law_k" : Str), 5)] : List (Str × Nat)).map (·.2)) (gNameM 5) bYes (eCallF 1 m_L_drawn_8 (aCons (eVar 1) aNil)))))
    (sSeq (sAsgG (eOp fIx (eVar 2) (eC (.int 0))) (gTupM 2 (gConsM (gNameM 3) (gConsM (gNameM 4) gNilM))))
    (sSeq (sDrop (eMethL mExtend (eVar 2) (aCons (eFrz (lDisp (aCons (eTup (aCons (eVar 3) (aCons (eCallP 2 m_L_sum (aCons (eVar 4) (aCons (eCallP 1 m_L_letter_2 (aCons (eC (.int 1)) aNil)) aNil))) aNil))) (aCons (eTup (aCons (eCallP 2 m_L_sum (aCons (eVar 3) (aCons (eCallP 1 m_L_letter_2 (aCons (eC (.int 1)) aNil)) aNil))) (aCons (eVar 4) aNil))) aNil)))) aNil)))
    (sRet (eCB cAll (aCons (eFrz (lLc (mAny (eOp fAddA (eVar 2) (eSlAny (eVar 2) oNone (oSome (eC (.int 1)))))) (([(("_law_a" : Str), 3), (("_law_b" : Str), 4)] : List (Str × Nat)).map (·.2)) (gTupM 2 (gConsM (gNameM 3) (gConsM (gNameM 4) gNilM))) (bTru (eCallP 1 m_L_short (aCons (eFrz (lDisp (aCons (eVar 3) (aCons (eVar 4) aNil)))) aNil))) (eCallP 2 m_L_right_29 (aCons (eVar 3) (aCons (eVar 4) aNil))))) aNil))))))
noncomputable def b_kind_holds : MS :=
    (sSeq (sAsgG (eVar 4) (gTupM 2 (gConsM (gNameM 5) (gConsM (gTupM 4 (gConsM (gNameM 6) (gConsM (gNameM 7) (gConsM (gNameM 8) (gConsM (gNameM 9) gNilM))))) gNilM))))
    (sSeq (sIf (bAnd (bTest (eOp (opEq false) (eOp fIx (eVar 5) (eC (.int 0))) (eC (.str ("powers" : Str))))) (bTest (eOp fGt (eOp fIx (eVar 5) (eC (.int 2))) (eOp fAddA (eCallP 1 m_degree (aCons (eVar 0) aNil)) (eCallP 1 m_degree (aCons (eVar 1) aNil))))))
    (sRet (eC (.bool false)))
    sNext)
    (sSeq (sAsg 10 (eTup (aCons (eCallP 2 m_put (aCons (eCallP 2 m_put (aCons (eVar 6) (aCons (eVar 0) aNil))) (aCons (eVar 7) aNil))) (aCons (eCallP 2 m_put (aCons (eCallP 2 m_put (aCons (eCallP 1 m_turned_back (aCons (eVar 7) aNil)) (aCons (eVar 1) aNil))) (aCons (eVar 8) aNil))) aNil))))
    (sSeq (sAsg 10 (eOp fAddA (eVar 10) (eTup (aCons (eCallP 2 m_put (aCons (eCallP 2 m_put (aCons (eVar 6) (aCons (eVar 2) aNil))) (aCons (eVar 9) aNil))) (aCons (eCallP 2 m_put (aCons (eCallP 2 m_put (aCons (eCallP 1 m_turned_back (aCons (eVar 9) aNil)) (aCons (eVar 3) aNil))) (aCons (eVar 8) aNil))) aNil)))))
    (sRet (eOp (opEq false) (eVar 10) (eCallP 3 m_four_of (aCons (eVar 5) (aCons (eCallP 1 m_degree (aCons (eVar 0) aNil)) (aCons (eCallP 1 m_degree (aCons (eVar 1) aNil)) aNil))))))))))
@[irreducible] noncomputable def m_kind_holds : List PyData → Rp := pureOf 11 b_kind_holds
noncomputable def b_exchanged : MS :=
    (sSeq (sPar 2 3 (aCons (eOp fIx (eVar 0) (eVar 1)) (aCons (eOp fIx (eVar 0) (eOp fAddA (eVar 1) (eC (.int 1)))) aNil)))
    (sSeq (sIf (bTest (eOp (opEq false) (eCallP 1 m_degree (aCons (eVar 2) aNil)) (eCallP 1 m_degree (aCons (eVar 3) aNil))))
    (sRet (eC .none))
    sNext)
    (sSeq (sAsg 4 (eCallP 2 m_apart (aCons (eCallP 2 m_put (aCons (eVar 2) (aCons (eVar 3) aNil))) (aCons (eCallP 1 m_degree (aCons (eVar 2) aNil)) aNil))))
    (sSeq (sIf (bTest (eOp (opEq false) (eOp fIx (eVar 4) (eC (.int 0))) (eC (.str ("barred" : Str)))))
    (sRet (eC .none))
    sNext)
    (sRet (eOp fAddA (eOp fAddA (eSlAny (eVar 0) oNone (oSome (eVar 1))) (eSlAny (eVar 4) (oSome (eC (.int 1))) oNone)) (eSlAny (eVar 0) (oSome (eOp fAddA (eVar 1) (eC (.int 2)))) oNone)))))))
@[irreducible] noncomputable def m_exchanged : List PyData → Rp := pureOf 5 b_exchanged
noncomputable def b_L_neat_3 : MS :=
    (sSeq (sAsg 2 (eCallP 2 m_L_straight (aCons (eCallP 2 m_L_at_2 (aCons (eVar 1) (aCons (eOp fSub (eCB cLen (aCons (eOp fIx (eVar 1) (eC (.int 0))) aNil)) (eC (.int 1))) aNil))) (aCons (eCallP 2 m_L_at_2 (aCons (eVar 1) (aCons (eC (.int 0)) aNil))) aNil))))
    (sRet (eTup (aCons (eCallP 2 m_L_of (aCons (eVar 0) (aCons (eVar 2) aNil))) (aCons (eCallP 2 m_L_of (aCons (eCallP 1 m_L_turned_back (aCons (eVar 2) aNil)) (aCons (eVar 1) aNil))) aNil)))))
@[irreducible] noncomputable def m_L_neat_3 : List PyData → Rp := pureOf 3 b_L_neat_3
noncomputable def b_L_drawn_9 : MS :=
    (sSeq (sAsgG (eCallF 1 m_L_two_degrees (aCons (eVar 0) aNil)) (gTupM 2 (gConsM (gNameM 1) (gConsM (gNameM 2) gNilM))))
    (sSeq (sIf (bTest (eOp (opEq false) (eCallF 2 m_L_pick (aCons (eVar 0) (aCons (eC (.int 4)) aNil))) (eC (.int 0))))
    (sRet (eCallP 2 m_L_neat_3 (aCons (eCallF 3 m_L_any_poly (aCons (eVar 0) (aCons (eVar 1) (aCons (eC (.int 4)) aNil)))) (aCons (eCallF 3 m_L_any_poly (aCons (eVar 0) (aCons (eVar 2) (aCons (eC (.int 4)) aNil)))) aNil))))
    sNext)
    (sSeq (sAsgG (eCallF 3 m_L_neighbours (aCons (eVar 0) (aCons (eVar 1) (aCons (eVar 2) aNil)))) (gTupM 4 (gConsM (gNameM 3) (gConsM (gNameM 4) (gConsM (gNameM 5) (gConsM (gNameM 6) gNilM))))))
    (sRet (eCallP 2 m_L_neat_3 (aCons (eVar 3) (aCons (eVar 4) aNil)))))))
@[irreducible] noncomputable def m_L_drawn_9 : List PyData → Fl → Rf := flowOf 7 b_L_drawn_9
noncomputable def b_L_right_30 : MS :=
    (sSeq (sAsg 3 (eCallP 2 m_exchanged (aCons (eTup (aCons (eVar 0) (aCons (eVar 1) aNil))) (aCons (eC (.int 0)) aNil))))
    (sSeq (sAsg 4 (eCallP 2 m_kind (aCons (eVar 0) (aCons (eVar 1) aNil))))
    (sSeq (sIf (bOr (bTest (eOp (fIsN false) (eVar 3) (eC .none))) (bTest (eOp (fIsN false) (eVar 4) (eC .none))))
    (sRet (eAndV (eOp (fIsN false) (eVar 3) (eC .none)) (eOp (fIsN false) (eVar 4) (eC .none))))
    sNext)
    (sSeq (sAsgG (eVar 3) (gTupM 2 (gConsM (gNameM 5) (gConsM (gNameM 6) gNilM))))
    (sSeq (sIf (bOr (bTest (eOp (opEq true) (eCallP 2 m_put (aCons (eVar 0) (aCons (eVar 1) aNil))) (eCallP 2 m_put (aCons (eVar 5) (aCons (eVar 6) aNil))))) (bTest (eOp (fIsN true) (eCallP 5 m_kind_holds (aCons (eVar 0) (aCons (eVar 1) (aCons (eVar 5) (aCons (eVar 6) (aCons (eVar 4) aNil)))))) (eC (.bool true)))))
    (sRet (eC (.bool false)))
    sNext)
    (sSeq (sAsg 7 (eCallP 2 m_kind (aCons (eVar 5) (aCons (eVar 6) aNil))))
    (sSeq (sIf (bOr (bTest (eOp (fIsN false) (eVar 7) (eC .none))) (bOr (bTest (eOp (opEq true) (eOp fIx (eOp fIx (eVar 7) (eC (.int 0))) (eC (.int 0))) (eOp fIx (eOp fIx (eVar 4) (eC (.int 0))) (eC (.int 0))))) (bTest (eOp (fIsN true) (eCallP 5 m_kind_holds (aCons (eVar 5) (aCons (eVar 6) (aCons (eVar 0) (aCons (eVar 1) (aCons (eVar 7) aNil)))))) (eC (.bool true))))))
    (sRet (eC (.bool false)))
    sNext)
    (sSeq (sAsg 8 (eCallP 2 m_kind (aCons (eCallP 2 m_put (aCons (eVar 2) (aCons (eVar 0) aNil))) (aCons (eVar 1) aNil))))
    (sRet (eAndV (eOp (fIsN true) (eVar 8) (eC .none)) (eOp (opEq false) (eOp fIx (eOp fIx (eVar 8) (eC (.int 0))) (eC (.int 0))) (eOp fIx (eOp fIx (eVar 4) (eC (.int 0))) (eC (.int 0))))))))))))))
@[irreducible] noncomputable def m_L_right_30 : List PyData → Rp := pureOf 9 b_L_right_30
noncomputable def b_law_k52 : MS :=
    (sSeq (sAsgG (eCallF 1 m_L_drawn_9 (aCons (eVar 1) aNil)) (gTupM 2 (gConsM (gNameM 2) (gConsM (gNameM 3) gNilM))))
    (sSeq (sAsgG (eCallF 1 m_L_drawn_9 (aCons (eVar 1) aNil)) (gTupM 2 (gConsM (gNameM 4) (gConsM (gNameM 5) gNilM))))
    (sSeq (sAsg 6 (eCallF 2 m_L_any_straight (aCons (eVar 1) (aCons (eC (.int 3)) aNil))))
    (sSeq (sAsg 7 (if true = true then eFrz (lLc (mAny (eTup (aCons (eTup (aCons (eVar 2) (aCons (eVar 3) aNil))) (aCons (eTup (aCons (eVar 4) (aCons (eVar 5) aNil))) (aCons (eTup (aCons (eVar 2) (aCons (eVar 3) aNil))) aNil))))) (([(("_law_two" : Str), 8)] : List (Str × Nat)).map (·.2)) (gNameM 8) (bTru (eCallP 1 m_L_short (aCons (eVar 8) aNil))) (eVar 8)) else eOwn (lLc (mAny (eTup (aCons (eTup (aCons (eVar 2) (aCons (eVar 3) aNil))) (aCons (eTup (aCons (eVar 4) (aCons (eVar 5) aNil))) (aCons (eTup (aCons (eVar 2) (aCons (eVar 3) aNil))) aNil))))) (([(("_law_two" : Str), 8)] : List (Str × Nat)).map (·.2)) (gNameM 8) (bTru (eCallP 1 m_L_short (aCons (eVar 8) aNil))) (eVar 8))))
    (sRet (eCB cAll (aCons (eFrz (lLc (mAny (eVar 7)) (([(("_law_two" : Str), 8)] : List (Str × Nat)).map (·.2)) (gNameM 8) bYes (eCallP 3 m_L_right_30 (aCons (eOp fIx (eVar 8) (eC (.int 0))) (aCons (eOp fIx (eVar 8) (eC (.int 1))) (aCons (eVar 6) aNil)))))) aNil)))))))
noncomputable def b_times_itself : MS :=
    (sSeq (sAsg 2 (eC (.int 1)))
    (sSeq (sFor (mR1 (aCons (eVar 1) aNil)) (gNameM 3)
    (sAsg 2 (eOp fMulA (eVar 2) (eVar 0))))
    (sRet (eVar 2))))
@[irreducible] noncomputable def m_times_itself : List PyData → Rp := pureOf 4 b_times_itself
noncomputable def b_layer_degree : MS :=
    (sSeq (sFor (mR2 (aCons (eC (.int 2)) (aCons (eVar 0) aNil))) (gNameM 2)
    (sIf (bTest (eOp (opEq false) (eCallP 2 m_times_itself (aCons (eVar 2) (aCons (eVar 1) aNil))) (eVar 0)))
    (sRet (eVar 2))
    sNext))
    (sRet (eC .none)))
@[irreducible] noncomputable def m_layer_degree : List PyData → Rp := pureOf 3 b_layer_degree
noncomputable def b_fraction_power : MS :=
    (sRet (eCallP 2 m_fraction (aCons (eCallP 2 m_times_itself (aCons (eOp fIx (eVar 0) (eC (.int 0))) (aCons (eVar 1) aNil))) (aCons (eCallP 2 m_times_itself (aCons (eOp fIx (eVar 0) (eC (.int 1))) (aCons (eVar 1) aNil))) aNil))))
@[irreducible] noncomputable def m_fraction_power : List PyData → Rp := pureOf 2 b_fraction_power
noncomputable def b_middle_2 : MS :=
    (sSeq (sAsg 4 (eCallP 1 m_degree (aCons (eVar 0) aNil)))
    (sSeq (sAsg 5 (eCallP 2 m_fraction_at (aCons (eCallP 2 m_again (aCons (eCallP 2 m_scaled (aCons (eVar 1) (aCons (eVar 2) aNil))) (aCons (eOp fSub (eVar 3) (eC (.int 1))) aNil))) (aCons (eOp fSub (eVar 4) (eC (.int 1))) aNil))))
    (sSeq (sAsg 6 (eCallP 2 m_divided (aCons (eCallP 2 m_fraction_at (aCons (eVar 0) (aCons (eOp fSub (eVar 4) (eC (.int 1))) aNil))) (aCons (eCallP 2 m_fraction_power (aCons (eVar 2) (aCons (eOp fSub (eVar 4) (eC (.int 1))) aNil))) aNil))))
    (sRet (eCallP 2 m_divided (aCons (eCallP 2 m_multiplied (aCons (eCallP 2 m_taken (aCons (eVar 6) (aCons (eVar 5) aNil))) (aCons (eCallP 2 m_fraction_power (aCons (eVar 2) (aCons (eVar 4) aNil))) aNil))) (aCons (eCallP 2 m_multiplied (aCons (eTup (aCons (eVar 4) (aCons (eC (.int 1)) aNil))) (aCons (eCallP 1 m_lead (aCons (eVar 0) aNil)) aNil))) aNil)))))))
@[irreducible] noncomputable def m_middle_2 : List PyData → Rp := pureOf 7 b_middle_2
noncomputable def b_again_roots : MS :=
    (sSeq (sAsg 2 (eCallP 2 m_layer_degree (aCons (eCallP 1 m_degree (aCons (eVar 0) aNil)) (aCons (eVar 1) aNil))))
    (sSeq (sIf (bTest (eOp (fIsN false) (eVar 2) (eC .none)))
    (sRet (eOwn (lDisp aNil)))
    sNext)
    (sSeq (sAsg 3 (eCallP 2 m_apart (aCons (eVar 0) (aCons (eVar 2) aNil))))
    (sSeq (sIf (bTest (eOp (opEq false) (eOp fIx (eVar 3) (eC (.int 0))) (eC (.str ("barred" : Str)))))
    (sRet (eOwn (lDisp aNil)))
    sNext)
    (sSeq (sAsgG (eVar 3) (gTupM 3 (gConsM (gNameM 4) (gConsM (gNameM 5) (gConsM (gNameM 6) gNilM)))))
    (sSeq (sAsg 7 (eCB cSum (aCons (eFrz (lLc (mR1 (aCons (eVar 1) aNil)) (([(("turn" : Str), 11)] : List (Str × Nat)).map (·.2)) (gNameM 11) bYes (eCallP 2 m_times_itself (aCons (eVar 2) (aCons (eVar 11) aNil))))) aNil)))
    (sSeq (sAsg 8 (eOwn (lDisp aNil)))
    (sSeq (sFor (mAny (eCallP 2 m_roots (aCons (eCallP 1 m_lead (aCons (eVar 0) aNil)) (aCons (eVar 7) aNil)))) (gNameM 9)
    (sSeq (sAsg 10 (eCallP 2 m_plus (aCons (eCallP 2 m_scaled (aCons (eVar 6) (aCons (eVar 9) aNil))) (aCons (eCallP 1 m_poly (aCons (eFrz (lDisp (aCons (eCallP 4 m_middle_2 (aCons (eVar 5) (aCons (eVar 6) (aCons (eVar 9) (aCons (eVar 1) aNil))))) aNil))) aNil)) aNil))))
    (sIf (bTest (eOp (opEq false) (eCallP 2 m_again (aCons (eVar 10) (aCons (eVar 1) aNil))) (eVar 0)))
    (sDrop (eMethL mAppend (eVar 8) (aCons (eVar 10) aNil)))
    sNext)))
    (sRet (eVar 8))))))))))
@[irreducible] noncomputable def m_again_roots : List PyData → Rp := pureOf 12 b_again_roots
noncomputable def b_L_again : MS :=
    (sSeq (sAsg 2 (eTup (aCons (eTup (aCons (eC (.int 0)) (aCons (eC (.int 1)) aNil))) (aCons (eC (.int 1)) aNil))))
    (sSeq (sFor (mR1 (aCons (eVar 1) aNil)) (gNameM 3)
    (sAsg 2 (eCallP 2 m_L_of (aCons (eVar 0) (aCons (eVar 2) aNil)))))
    (sRet (eVar 2))))
@[irreducible] noncomputable def m_L_again : List PyData → Rp := pureOf 4 b_L_again
noncomputable def b_L_one : MS :=
    (sSeq (sAsgG (eOp fIx (eFrz (lDisp (aCons (eTup (aCons (eC (.int 2)) (aCons (eC (.int 2)) aNil))) (aCons (eTup (aCons (eC (.int 2)) (aCons (eC (.int 3)) aNil))) (aCons (eTup (aCons (eC (.int 2)) (aCons (eC (.int 4)) aNil))) (aCons (eTup (aCons (eC (.int 3)) (aCons (eC (.int 2)) aNil))) (aCons (eTup (aCons (eC (.int 3)) (aCons (eC (.int 2)) aNil))) (aCons (eTup (aCons (eC (.int 4)) (aCons (eC (.int 2)) aNil))) aNil)))))))) (eCallF 2 m_L_pick (aCons (eVar 0) (aCons (eC (.int 6)) aNil)))) (gTupM 2 (gConsM (gNameM 1) (gConsM (gNameM 2) gNilM))))
    (sSeq (sAsg 3 (eCallF 3 m_L_any_poly (aCons (eVar 0) (aCons (eVar 1) (aCons (eOp fIx (eFrz (lDisp (aCons (eC (.int 3)) (aCons (eC (.int 9)) (aCons (eC (.int 99)) aNil))))) (eCallF 2 m_L_pick (aCons (eVar 0) (aCons (eC (.int 3)) aNil)))) aNil)))))
    (sSeq (sIf (bTest (eOp (opEq false) (eCallF 2 m_L_pick (aCons (eVar 0) (aCons (eC (.int 4)) aNil))) (eC (.int 0))))
    (sSeq (sAsg 3 (eCallP 2 m_L_poly (aCons (eFrz (lLc (mEnum (aCons (eOp fIx (eVar 3) (eC (.int 0))) aNil)) (([(("_law_j" : Str), 5), (("_law_top" : Str), 6)] : List (Str × Nat)).map (·.2)) (gTupM 2 (gConsM (gNameM 5) (gConsM (gNameM 6) gNilM))) bYes (eOp fMulA (eVar 6) (eCB cInt (aCons (eOp (opEq false) (eOp fMod (eOp fSub (eVar 1) (eVar 5)) (eC (.int 2))) (eC (.int 0))) aNil))))) (aCons (eOp fIx (eVar 3) (eC (.int 1))) aNil))))
    (sSeq (sAsg 4 (eCallP 2 m_L_straight (aCons (eTup (aCons (eC (.int 1)) (aCons (eC (.int 1)) aNil))) (aCons (eCallF 2 m_L_any_fraction (aCons (eVar 0) (aCons (eC (.int 3)) aNil))) aNil))))
    (sAsg 3 (eCallP 2 m_L_of (aCons (eCallP 1 m_L_turned_back (aCons (eVar 4) aNil)) (aCons (eCallP 2 m_L_of (aCons (eVar 3) (aCons (eVar 4) aNil))) aNil))))))
    sNext)
    (sSeq (sIf (bNot (bTru (eCallP 1 m_L_within (aCons (eCallP 2 m_L_again (aCons (eVar 3) (aCons (eVar 2) aNil))) aNil))))
    (sAsg 3 (eCallP 2 m_L_poly (aCons (eOp fAddA (eOp fAddA (eFrz (lDisp (aCons (eOp fAddA (eC (.int 1)) (eCallF 2 m_L_pick (aCons (eVar 0) (aCons (eC (.int 3)) aNil)))) aNil))) (eOp fMulA (eFrz (lDisp (aCons (eC (.int 0)) aNil))) (eOp fSub (eVar 1) (eC (.int 1))))) (eFrz (lDisp (aCons (eC (.int 1)) aNil)))) (aCons (eC (.int 1)) aNil))))
    sNext)
    (sRet (eTup (aCons (eVar 3) (aCons (eVar 2) aNil))))))))
@[irreducible] noncomputable def m_L_one : List PyData → Fl → Rf := flowOf 7 b_L_one
noncomputable def b_L_candidate_5 : MS :=
    (sSeq (sAsg 2 (eOp fSub (eCB cLen (aCons (eOp fIx (eVar 0) (eC (.int 0))) aNil)) (eC (.int 1))))
    (sSeq (sAsg 3 (eCallP 2 m_L_times (aCons (eVar 0) (aCons (eCallP 2 m_L_poly (aCons (eFrz (lDisp (aCons (eOp fMulA (eOp fIx (eVar 0) (eC (.int 1))) (eOp fIx (eFrz (lDisp (aCons (eC (.int 1)) (aCons (eOp fSub (eC (.int 0)) (eC (.int 1))) aNil)))) (eCB cInt (aCons (eOp fLt (eOp fIx (eOp fIx (eVar 0) (eC (.int 0))) (eVar 2)) (eC (.int 0))) aNil)))) aNil))) (aCons (eCB cAbs (aCons (eOp fIx (eOp fIx (eVar 0) (eC (.int 0))) (eVar 2)) aNil)) aNil))) aNil))))
    (sSeq (sAsg 4 (eCallP 2 m_L_poly (aCons (eOp fAddA (eOp fMulA (eFrz (lDisp (aCons (eC (.int 0)) aNil))) (eVar 1)) (eFrz (lDisp (aCons (eC (.int 1)) aNil)))) (aCons (eC (.int 1)) aNil))))
    (sSeq (sFor (mR2 (aCons (eC (.int 1)) (aCons (eVar 1) aNil))) (gNameM 5)
    (sSeq (sAsg 6 (eCallP 2 m_L_at_2 (aCons (eCallP 2 m_L_power (aCons (eVar 4) (aCons (eOp fDiv (eVar 2) (eVar 1)) aNil))) (aCons (eOp fSub (eVar 2) (eVar 5)) aNil))))
    (sSeq (sAsg 7 (eCallP 2 m_L_at_2 (aCons (eVar 3) (aCons (eOp fSub (eVar 2) (eVar 5)) aNil))))
    (sSeq (sAsg 8 (eCallP 2 m_L_fraction (aCons (eOp fSub (eOp fMulA (eOp fIx (eVar 7) (eC (.int 0))) (eOp fIx (eVar 6) (eC (.int 1)))) (eOp fMulA (eOp fIx (eVar 6) (eC (.int 0))) (eOp fIx (eVar 7) (eC (.int 1))))) (aCons (eOp fMulA (eOp fMulA (eOp fIx (eVar 7) (eC (.int 1))) (eOp fIx (eVar 6) (eC (.int 1)))) (eOp fDiv (eVar 2) (eVar 1))) aNil))))
    (sAsg 4 (eCallP 2 m_L_sum (aCons (eVar 4) (aCons (eCallP 2 m_L_poly (aCons (eOp fAddA (eOp fMulA (eFrz (lDisp (aCons (eC (.int 0)) aNil))) (eOp fSub (eVar 1) (eVar 5))) (eFrz (lDisp (aCons (eOp fIx (eVar 8) (eC (.int 0))) aNil)))) (aCons (eOp fIx (eVar 8) (eC (.int 1))) aNil))) aNil))))))))
    (sRet (eVar 4))))))
@[irreducible] noncomputable def m_L_candidate_5 : List PyData → Rp := pureOf 9 b_L_candidate_5
noncomputable def b_L_raised_3 : MS :=
    (sSeq (sAsg 2 (eC (.int 1)))
    (sSeq (sFor (mR1 (aCons (eVar 1) aNil)) (gNameM 3)
    (sAsg 2 (eOp fMulA (eVar 2) (eVar 0))))
    (sRet (eVar 2))))
@[irreducible] noncomputable def m_L_raised_3 : List PyData → Rp := pureOf 4 b_L_raised_3
noncomputable def b_L_root : MS :=
    (sSeq (sPar 2 3 (aCons (eC (.int 0)) (aCons (eOp fPow (eC (.int 10)) (eC (.int 21))) aNil)))
    (sSeq (sWhile (bTest (eOp fLt (eVar 2) (eVar 3)))
    (sSeq (sAsg 4 (eOp fDiv (eOp fAddA (eVar 2) (eVar 3)) (eC (.int 2))))
    (sIf (bTest (eOp fLt (eCallP 2 m_L_raised_3 (aCons (eVar 4) (aCons (eVar 1) aNil))) (eVar 0)))
    (sAsg 2 (eOp fAddA (eVar 4) (eC (.int 1))))
    (sAsg 3 (eVar 4)))))
    (sRet (eOp fIx (eFrz (lDisp (aCons (eC .none) (aCons (eVar 2) aNil)))) (eCB cInt (aCons (eOp (opEq false) (eCallP 2 m_L_raised_3 (aCons (eVar 2) (aCons (eVar 1) aNil))) (eVar 0)) aNil))))))
@[irreducible] noncomputable def m_L_root : List PyData → Rp := pureOf 5 b_L_root
noncomputable def b_L_leads_2 : MS :=
    (sSeq (sPar 2 3 (aCons (eCallP 2 m_L_root (aCons (eCB cAbs (aCons (eOp fIx (eVar 0) (eC (.int 0))) aNil)) (aCons (eVar 1) aNil))) (aCons (eCallP 2 m_L_root (aCons (eOp fIx (eVar 0) (eC (.int 1))) (aCons (eVar 1) aNil))) aNil)))
    (sSeq (sIf (bOr (bTest (eOp (fIsN false) (eVar 2) (eC .none))) (bOr (bTest (eOp (fIsN false) (eVar 3) (eC .none))) (bAnd (bTest (eOp fLt (eOp fIx (eVar 0) (eC (.int 0))) (eC (.int 0)))) (bTest (eOp (opEq false) (eOp fMod (eVar 1) (eC (.int 2))) (eC (.int 0)))))))
    (sRet (eFrz (lDisp aNil)))
    sNext)
    (sSeq (sIf (bTest (eOp (opEq false) (eOp fMod (eVar 1) (eC (.int 2))) (eC (.int 0))))
    (sRet (eFrz (lDisp (aCons (eTup (aCons (eOp fSub (eC (.int 0)) (eVar 2)) (aCons (eVar 3) aNil))) (aCons (eTup (aCons (eVar 2) (aCons (eVar 3) aNil))) aNil)))))
    sNext)
    (sRet (eFrz (lDisp (aCons (eTup (aCons (eOp fIx (eFrz (lDisp (aCons (eVar 2) (aCons (eOp fSub (eC (.int 0)) (eVar 2)) aNil)))) (eCB cInt (aCons (eOp fLt (eOp fIx (eVar 0) (eC (.int 0))) (eC (.int 0))) aNil))) (aCons (eVar 3) aNil))) aNil)))))))
@[irreducible] noncomputable def m_L_leads_2 : List PyData → Rp := pureOf 4 b_L_leads_2
noncomputable def b_L_with_2 : MS :=
    (sSeq (sAsg 4 (eOp fSub (eCB cLen (aCons (eOp fIx (eVar 1) (eC (.int 0))) aNil)) (eC (.int 1))))
    (sSeq (sAsg 5 (eCallP 2 m_L_times (aCons (eVar 1) (aCons (eCallP 2 m_L_poly (aCons (eFrz (lDisp (aCons (eOp fIx (eVar 2) (eC (.int 0))) aNil))) (aCons (eOp fIx (eVar 2) (eC (.int 1))) aNil))) aNil))))
    (sSeq (sAsg 6 (eOp fSub (eOp fSub (eCB cLen (aCons (eOp fIx (eVar 0) (eC (.int 0))) aNil)) (eC (.int 1))) (eVar 4)))
    (sSeq (sAsg 7 (eCallP 2 m_L_at_2 (aCons (eCallP 2 m_L_again (aCons (eVar 5) (aCons (eVar 3) aNil))) (aCons (eVar 6) aNil))))
    (sSeq (sAsg 8 (eCallP 2 m_L_at_2 (aCons (eCallP 2 m_L_again (aCons (eCallP 2 m_L_sum (aCons (eVar 5) (aCons (eTup (aCons (eTup (aCons (eC (.int 1)) aNil)) (aCons (eC (.int 1)) aNil))) aNil))) (aCons (eVar 3) aNil))) (aCons (eVar 6) aNil))))
    (sSeq (sAsg 9 (eCallP 2 m_L_fraction (aCons (eOp fSub (eOp fMulA (eOp fIx (eVar 8) (eC (.int 0))) (eOp fIx (eVar 7) (eC (.int 1)))) (eOp fMulA (eOp fIx (eVar 7) (eC (.int 0))) (eOp fIx (eVar 8) (eC (.int 1))))) (aCons (eOp fMulA (eOp fIx (eVar 8) (eC (.int 1))) (eOp fIx (eVar 7) (eC (.int 1)))) aNil))))
    (sSeq (sAsg 10 (eCallP 2 m_L_at_2 (aCons (eVar 0) (aCons (eVar 6) aNil))))
    (sSeq (sAsg 11 (eCallP 2 m_L_fraction (aCons (eOp fSub (eOp fMulA (eOp fIx (eVar 10) (eC (.int 0))) (eOp fIx (eVar 7) (eC (.int 1)))) (eOp fMulA (eOp fIx (eVar 7) (eC (.int 0))) (eOp fIx (eVar 10) (eC (.int 1))))) (aCons (eOp fMulA (eOp fIx (eVar 10) (eC (.int 1))) (eOp fIx (eVar 7) (eC (.int 1)))) aNil))))
    (sSeq (sAsg 12 (eCallP 2 m_L_fraction (aCons (eOp fMulA (eOp fIx (eVar 11) (eC (.int 0))) (eOp fIx (eVar 9) (eC (.int 1)))) (aCons (eOp fMulA (eOp fIx (eVar 11) (eC (.int 1))) (eOp fIx (eVar 9) (eC (.int 0)))) aNil))))
    (sSeq (sAsg 13 (eCallP 2 m_L_sum (aCons (eVar 5) (aCons (eCallP 2 m_L_poly (aCons (eFrz (lDisp (aCons (eOp fIx (eVar 12) (eC (.int 0))) aNil))) (aCons (eOp fIx (eVar 12) (eC (.int 1))) aNil))) aNil))))
    (sRet (eOp fIx (eFrz (lDisp (aCons (eC .none) (aCons (eVar 13) aNil)))) (eCB cInt (aCons (eOp (opEq false) (eCallP 2 m_L_again (aCons (eVar 13) (aCons (eVar 3) aNil))) (eVar 0)) aNil))))))))))))))
@[irreducible] noncomputable def m_L_with_2 : List PyData → Rp := pureOf 14 b_L_with_2
noncomputable def b_L_due_6 : MS :=
    (sSeq (sAsg 2 (eOp fSub (eCB cLen (aCons (eOp fIx (eVar 0) (eC (.int 0))) aNil)) (eC (.int 1))))
    (sSeq (sAsg 3 (if true = true then eFrz (lLc (mR2 (aCons (eC (.int 2)) (aCons (eVar 2) aNil))) (([(("_law_d" : Str), 5)] : List (Str × Nat)).map (·.2)) (gNameM 5) (bTest (eOp (opEq false) (eCallP 2 m_L_raised_3 (aCons (eVar 5) (aCons (eVar 1) aNil))) (eVar 2))) (eVar 5)) else eOwn (lLc (mR2 (aCons (eC (.int 2)) (aCons (eVar 2) aNil))) (([(("_law_d" : Str), 5)] : List (Str × Nat)).map (·.2)) (gNameM 5) (bTest (eOp (opEq false) (eCallP 2 m_L_raised_3 (aCons (eVar 5) (aCons (eVar 1) aNil))) (eVar 2))) (eVar 5))))
    (sSeq (sAsg 4 (eOwn (lDisp aNil)))
    (sSeq (sFor (mAny (eVar 3)) (gNameM 5)
    (sSeq (sAsg 6 (eCB cSum (aCons (eFrz (lLc (mR1 (aCons (eVar 1) aNil)) (([(("_law_turn" : Str), 9)] : List (Str × Nat)).map (·.2)) (gNameM 9) bYes (eCallP 2 m_L_raised_3 (aCons (eVar 5) (aCons (eVar 9) aNil))))) aNil)))
    (sFor (mAny (eCallP 2 m_L_leads_2 (aCons (eCallP 2 m_L_fraction (aCons (eOp fIx (eOp fIx (eVar 0) (eC (.int 0))) (eVar 2)) (aCons (eOp fIx (eVar 0) (eC (.int 1))) aNil))) (aCons (eVar 6) aNil)))) (gNameM 7)
    (sDrop (eMethL mAppend (eVar 4) (aCons (eCallP 4 m_L_with_2 (aCons (eVar 0) (aCons (eCallP 2 m_L_candidate_5 (aCons (eVar 0) (aCons (eVar 5) aNil))) (aCons (eVar 7) (aCons (eVar 1) aNil))))) aNil))))))
    (sRet (eFrz (lLc (mAny (eVar 4)) (([(("_law_one_here" : Str), 8)] : List (Str × Nat)).map (·.2)) (gNameM 8) (bTest (eOp (fIsN true) (eVar 8) (eC .none))) (eVar 8))))))))
@[irreducible] noncomputable def m_L_due_6 : List PyData → Rp := pureOf 10 b_L_due_6
noncomputable def b_L_otherwise_7 : MS :=
    (sSeq (sAsg 2 (eOwn (lCB cListOf (aCons (eOp fIx (eVar 1) (eC (.int 0))) aNil))))
    (sSeq (sAsg 3 (eCallF 2 m_L_pick (aCons (eVar 0) (aCons (eCB cLen (aCons (eVar 2) aNil)) aNil))))
    (sSeq (sAsgG (eOp fAddA (eOp fIx (eVar 2) (eVar 3)) (eOp fIx (eFrz (lDisp (aCons (eC (.int 1)) (aCons (eOp fSub (eC (.int 0)) (eC (.int 1))) (aCons (eOp fIx (eVar 1) (eC (.int 1))) (aCons (eOp fSub (eC (.int 0)) (eOp fIx (eVar 1) (eC (.int 1)))) aNil)))))) (eCallF 2 m_L_pick (aCons (eVar 0) (aCons (eC (.int 4)) aNil))))) (gSubM (eVar 2) (eVar 3)))
    (sSeq (sAsg 4 (eCallP 2 m_L_poly (aCons (eVar 2) (aCons (eOp fIx (eVar 1) (eC (.int 1))) aNil))))
    (sRet (eOp fIx (eFrz (lDisp (aCons (eVar 1) (aCons (eVar 4) aNil)))) (eCB cInt (aCons (eAndV (eOp (opEq false) (eCB cLen (aCons (eOp fIx (eVar 4) (eC (.int 0))) aNil)) (eCB cLen (aCons (eOp fIx (eVar 1) (eC (.int 0))) aNil))) (eCallP 1 m_L_within (aCons (eVar 4) aNil))) aNil))))))))
@[irreducible] noncomputable def m_L_otherwise_7 : List PyData → Fl → Rf := flowOf 5 b_L_otherwise_7
noncomputable def b_law_k62 : MS :=
    (sSeq (sAsgG (eCallF 1 m_L_one (aCons (eVar 1) aNil)) (gTupM 2 (gConsM (gNameM 2) (gConsM (gNameM 3) gNilM))))
    (sSeq (sAsg 4 (eCallP 2 m_L_again (aCons (eVar 2) (aCons (eVar 3) aNil))))
    (sSeq (sAsg 5 (eOwn (lDisp (aCons (eTup (aCons (eVar 4) (aCons (eC (.int 2)) aNil))) (aCons (eTup (aCons (eVar 4) (aCons (eC (.int 3)) aNil))) (aCons (eTup (aCons (eVar 4) (aCons (eC (.int 4)) aNil))) (aCons (eTup (aCons (eCallF 2 m_L_otherwise_7 (aCons (eVar 1) (aCons (eVar 4) aNil))) (aCons (eVar 3) aNil))) (aCons (eTup (aCons (eCallP 2 m_L_times (aCons (eVar 4) (aCons (eTup (aCons (eTup (aCons (eOp fSub (eC (.int 0)) (eC (.int 1))) aNil)) (aCons (eC (.int 1)) aNil))) aNil))) (aCons (eVar 3) aNil))) aNil))))))))
    (sSeq (sAsg 6 (eCallF 3 m_L_any_poly (aCons (eVar 1) (aCons (eOp fIx (eFrz (lDisp (aCons (eC (.int 2)) (aCons (eC (.int 4)) (aCons (eC (.int 8)) (aCons (eC (.int 9)) (aCons (eC (.int 16)) (aCons (eOp fAddA (eC (.int 2)) (eCallF 2 m_L_pick (aCons (eVar 1) (aCons (eC (.int 15)) aNil)))) aNil)))))))) (eCallF 2 m_L_pick (aCons (eVar 1) (aCons (eC (.int 6)) aNil)))) (aCons (eC (.int 9)) aNil)))))
    (sSeq (sDrop (eMethL mAppend (eVar 5) (aCons (eTup (aCons (eVar 6) (aCons (eOp fAddA (eC (.int 2)) (eCallF 2 m_L_pick (aCons (eVar 1) (aCons (eC (.int 3)) aNil)))) aNil))) aNil)))
    (sRet (eCB cAll (aCons (eFrz (lLc (mAny (eOp fAddA (eVar 5) (eSlAny (eVar 5) oNone (oSome (eC (.int 1)))))) (([(("_law_one_here" : Str), 7), (("_law_many" : Str), 8)] : List (Str × Nat)).map (·.2)) (gTupM 2 (gConsM (gNameM 7) (gConsM (gNameM 8) gNilM))) bYes (eCallP 2 (m_L_alike_2 8) (aCons (eCallP 2 m_again_roots (aCons (eVar 7) (aCons (eVar 8) aNil))) (aCons (eCallP 2 m_L_due_6 (aCons (eVar 7) (aCons (eVar 8) aNil))) aNil))))) aNil))))))))
end NW

namespace NW
open PySem PySem.Spec PyProof.Rows L2
def FlOk (f : Fl) : Prop := 0 ≤ f.held ∧ 0 ≤ f.seed ∧ f.seed < 2147483647 ∧ 0 ≤ f.place
theorem fl0_ok (ns : List Int) : FlOk (fl0 ns) := by unfold FlOk fl0; simp
theorem log2_lt {i : Int} {n : Nat} (h : i.natAbs < 2 ^ n) (h0 : 0 < n) : i.natAbs.log2 < n := by
  by_cases e : i.natAbs = 0
  · rw [e]; simp; exact h0
  · exact (Nat.log2_lt e).mpr h
theorem mulC_of {i j : Int} {a b : Nat} (ha : i.natAbs < 2 ^ a) (hb : j.natAbs < 2 ^ b) (h0 : 0 < a) (h1 : 0 < b) (h : a + b ≤ 1000000) : mulC i j = true := by
  have x := log2_lt ha h0
  have y := log2_lt hb h1
  unfold mulC
  exact decide_eq_true (by omega)
theorem divC_of {i j : Int} {b : Nat} (h : j ≠ 0) (hb : j.natAbs < 2 ^ b) (h0 : 0 < b) (h9 : b ≤ 9000) : divC i j = true := by
  have x := log2_lt hb h0
  unfold divC
  exact decide_eq_true ⟨h, by omega⟩
theorem fmod_lt {a b : Int} (h : 0 < b) : 0 ≤ a.fmod b ∧ a.fmod b < b := by
  rw [Int.fmod_eq_emod_of_nonneg a (by omega)]
  exact ⟨Int.emod_nonneg a (by omega), Int.emod_lt_of_pos a h⟩
theorem fdiv_nn {a b : Int} (h0 : 0 ≤ a) (h : 0 < b) : 0 ≤ a.fdiv b := by
  rw [Int.fdiv_eq_ediv_of_nonneg a (by omega)]
  exact Int.ediv_nonneg h0 (by omega)
theorem fdiv_le {a b : Int} (h0 : 0 ≤ a) (h : 0 < b) : a.fdiv b ≤ a := by
  rw [Int.fdiv_eq_ediv_of_nonneg a (by omega)]
  exact Int.ediv_le_self b h0
theorem mulC_small {i j : Int} (h : -(2 ^ 64) < i ∧ i < 2 ^ 64) (h' : -(2 ^ 64) < j ∧ j < 2 ^ 64) : mulC i j = true := mulC_of (a := 64) (b := 64) (by omega) (by omega) (by omega) (by omega) (by omega)
theorem divC_small {i j : Int} (h : j ≠ 0) (h' : -(2 ^ 64) < j ∧ j < 2 ^ 64) : divC i j = true := divC_of (b := 64) h (by omega) (by omega) (by omega)
theorem pick_A {seed mny many : Int} {P : Int → Int → Prop} (h0 : 0 ≤ seed) (h1 : seed < 2147483647) (hm : 0 < many) (hP : ∀ i s, 0 ≤ i → i < many → 0 ≤ s → s < 2147483647 → P i s) : mulC seed 48271 = true ∧
    divC ((seed * 48271 + 12820163 + (mny + 1)).fmod 2147483647) 65521 = true ∧
    mulC (((seed * 48271 + 12820163 + (mny + 1)).fmod 2147483647).fmod 65521 + 1) (((seed * 48271 + 12820163 + (mny + 1)).fmod 2147483647).fdiv 65521 + 7919) = true ∧
    divC (((((seed * 48271 + 12820163 + (mny + 1)).fmod 2147483647).fmod 65521 + 1) * (((seed * 48271 + 12820163 + (mny + 1)).fmod 2147483647).fdiv 65521 + 7919)).fmod 1000003) 7 = true ∧ ¬many = 0 ∧
    P (((((((seed * 48271 + 12820163 + (mny + 1)).fmod 2147483647).fmod 65521 + 1) * (((seed * 48271 + 12820163 + (mny + 1)).fmod 2147483647).fdiv 65521 + 7919)).fmod 1000003).fdiv 7).fmod many) ((seed * 48271 + 12820163 + (mny + 1)).fmod 2147483647) := by
  have a := fmod_lt (a := seed * 48271 + 12820163 + (mny + 1)) (b := 2147483647) (by omega)
  generalize (seed * 48271 + 12820163 + (mny + 1)).fmod 2147483647 = s at a ⊢
  have b := fmod_lt (a := s) (b := 65521) (by omega)
  have c := fdiv_nn (a := s) (b := 65521) a.1 (by omega)
  have c' := fdiv_le (a := s) (b := 65521) a.1 (by omega)
  refine ⟨mulC_small (by omega) (by omega), divC_small (by omega) (by omega), mulC_small (by omega) (by omega), divC_small (by omega) (by omega), by omega, ?_⟩
  have d := fmod_lt (a := ((s.fmod 65521 + 1) * (s.fdiv 65521 + 7919)).fmod 1000003 |>.fdiv 7) (b := many) hm
  exact hP _ _ d.1 d.2 a.1 a.2
theorem pick_to {f : Fl} (hf : FlOk f) {many : Int} (h0 : 0 < many) (h1 : many.natAbs < 2 ^ 64) : (m_L_pick [.int many] f).To fun d f' => ∃ i, d = .int i ∧ 0 ≤ i ∧ i < many ∧ FlOk f' := by
  unfold m_L_pick
  rw [flow_to]
  obtain ⟨cells, place, held, seed, mny⟩ := f
  obtain ⟨a1, a2, a3, a4⟩ := hf
  simp only at a1 a2 a3 a4
  unfold b_L_pick
  simp only [startL, List.map_cons, List.map_nil, List.length_cons, List.length_nil, List.cons_append, List.nil_append, List.replicate]
  have tail : ∀ (cells : List Int) (place held seed mny : Int) (c : Option U), 0 ≤ held → 0 ≤ seed → seed < 2147483647 → 0 ≤ place →
      (held ≤ 0 ∧ mulC seed 48271 = true ∧ divC ((seed * 48271 + 12820163 + (mny + 1)).fmod 2147483647) 65521 = true ∧
    mulC (((seed * 48271 + 12820163 + (mny + 1)).fmod 2147483647).fmod 65521 + 1) (((seed * 48271 + 12820163 + (mny + 1)).fmod 2147483647).fdiv 65521 + 7919) = true ∧
    divC (((((seed * 48271 + 12820163 + (mny + 1)).fmod 2147483647).fmod 65521 + 1) * (((seed * 48271 + 12820163 + (mny + 1)).fmod 2147483647).fdiv 65521 + 7919)).fmod 1000003) 7 = true ∧ ¬many = 0 ∧
      0 ≤ (((((((seed * 48271 + 12820163 + (mny + 1)).fmod 2147483647).fmod 65521 + 1) * (((seed * 48271 + 12820163 + (mny + 1)).fmod 2147483647).fdiv 65521 + 7919)).fmod 1000003).fdiv 7).fmod many) ∧
      (((((((seed * 48271 + 12820163 + (mny + 1)).fmod 2147483647).fmod 65521 + 1) * (((seed * 48271 + 12820163 + (mny + 1)).fmod 2147483647).fdiv 65521 + 7919)).fmod 1000003).fdiv 7).fmod many) < many ∧
      FlOk { cells := cells, place := place, held := held, seed := (seed * 48271 + 12820163 + (mny + 1)).fmod 2147483647, many := mny + 1 }) ∨
      0 < held ∧ ¬many = 0 ∧ divC held many = true ∧ 0 ≤ held.fmod many ∧ held.fmod many < many ∧ FlOk { cells := cells, place := place, held := held.fdiv many, seed := seed, many := mny } := by
    intro cells place held seed mny c b1 b2 b3 b4
    by_cases hh : held ≤ 0
    · exact .inl ⟨hh, pick_A (P := fun i s => 0 ≤ i ∧ i < many ∧ FlOk ⟨cells, place, held, s, mny + 1⟩) b2 b3 h0 fun i s c1 c2 c3 c4 => ⟨c1, c2, b1, c3, c4, b4⟩⟩
    · have d := fmod_lt (a := held) h0
      exact .inr ⟨by omega, by omega, divC_of (b := 64) (by omega) h1 (by omega) (by omega), d.1, d.2, fdiv_nn b1 h0, b2, b3, b4⟩
  by_cases hh : held = 0
  · subst hh
    by_cases hp : place < cells.length
    · obtain ⟨n, rfl⟩ := Int.eq_ofNat_of_zero_le a4
      have hn : n < cells.length := by omega
      have hq : ¬ cells.length ≤ n := by omega
      have e1 : idxN cells.length ((n : Nat) : Int) = some n := idxN_nat hn
      have e2 : cells[n]? = some cells[n] := List.getElem?_eq_getElem hn
      by_cases hx : cells[n] < 1000000000000000000
      · have z := tail cells ((n : Int) + 1) 0 ((seed * 40013 + cells[n].fmod 1000003 + 1).fmod 2147483647) mny none a1 (fmod_lt (by omega)).1 (fmod_lt (by omega)).2 (by omega)
        have y := mulC_small (i := seed) (j := 40013) (by omega) (by omega)
        have hx1 : ¬ 1000000000000000000 ≤ cells[n] := by omega
        simp [hn, hq, e1, e2, hx, hx1, y] at z ⊢
        exact z
      · have hx' : ¬ cells[n] < 1000000000000000000 := hx
        have z := tail cells ((n : Int) + 1) cells[n] seed mny none (by omega) a2 a3 (by omega)
        have hx2 : 1000000000000000000 ≤ cells[n] := by omega
        have hx3 : 0 < cells[n] := by omega
        have hx4 : ¬ cells[n] ≤ 0 := by omega
        simp [hn, hq, e1, e2, hx, hx2, hx3, hx4] at z ⊢
        exact z
    · have hp' : (cells.length : Int) ≤ place := by omega
      have z := tail cells place 0 seed mny none a1 a2 a3 a4
      simp [hp, hp'] at z ⊢
      exact z
  · have z := tail cells place held seed mny none a1 a2 a3 a4
    simp [hh] at z ⊢
    exact z

end NW

namespace NW
open PySem PySem.Spec PyProof.Rows L2
/-! ### the greatest common divisor -/
theorem gcd_step (a b : Int) : Int.gcd b (a.fmod b) = Int.gcd a b := by
  rw [Int.fmod_def a b, Int.gcd_sub_mul_left_right, Int.gcd_comm]
theorem fmod_natAbs {a b : Int} (h : b ≠ 0) : (a.fmod b).natAbs < b.natAbs := by
  by_cases hb : 0 < b
  · have := fmod_lt (a := a) hb
    omega
  · have h1 : a.fmod b = -((-a).fmod (-b)) := by
      rw [Int.fmod_def, Int.fmod_def, Int.neg_fdiv_neg]
      rw [Int.neg_mul, Int.sub_eq_add_neg, Int.sub_eq_add_neg, Int.neg_add]
      simp
    have := fmod_lt (a := -a) (b := -b) (by omega)
    omega
theorem common_part_to {a b : Int} {P : PyData → Prop} (h : P (.int (Int.gcd a b : Nat))) : (m_common_part [.int a, .int b]).To P := by
  unfold m_common_part
  rw [pure_to]
  unfold b_common_part
  simp only [startL, List.map_cons, List.map_nil, List.length_cons, List.length_nil, List.cons_append, List.nil_append, List.replicate, to_sSeq]
  refine while_to (I := fun n l s => ∃ x y : Int, l = [some (.d (.int x)), some (.d (.int y))] ∧ s = ⟨none, []⟩ ∧ Int.gcd x y = Int.gcd a b ∧ y.natAbs = n) ?_ b.natAbs _ _ ⟨a, b, rfl, rfl, rfl, rfl⟩
  rintro n l s ⟨x, y, rfl, rfl, hg, rfl⟩
  by_cases hy : y = 0
  · subst hy
    rw [Int.gcd_zero_right] at hg
    have e : (if x < 0 then -x else x) = ((Int.gcd a b : Nat) : Int) := by rw [← hg]; split <;> omega
    simp [e]; exact h
  · simp [hy]
    exact ⟨_, fmod_natAbs hy, _, _, ⟨rfl, rfl⟩, (gcd_step x y).trans hg, rfl⟩
/-! ### fractions -/
def fracD (q : Rat) : PyData := .tuple [.int q.num, .int q.den]
@[simp] theorem idx_0 {n : Nat} : idxN (n + 1) 0 = some 0 := by unfold idxN; simp
@[simp] theorem idx_1 {n : Nat} : idxN (n + 2) 1 = some 1 := by
  unfold idxN
  rw [if_pos (by decide), if_pos (by omega)]; rfl
theorem frac_parts {t b g : Int} (hb : b ≠ 0) (hg : g = ((Int.gcd t b : Nat) : Int)) : (0 < b → t.fdiv g = (Rat.divInt t b).num ∧ b.fdiv g = ((Rat.divInt t b).den : Int)) ∧ (b < 0 → t.fdiv (0 - g) = (Rat.divInt t b).num ∧ b.fdiv (0 - g) = ((Rat.divInt t b).den : Int)) := by
  have hgt : g ∣ t := by rw [hg]; exact Int.gcd_dvd_left t b
  have hgb : g ∣ b := by rw [hg]; exact Int.gcd_dvd_right t b
  have e1 := Rat.num_divInt t b
  have e2 := Rat.den_divInt t b
  rw [if_neg hb, Int.gcd_comm b t] at e2
  rw [Int.gcd_comm b t, ← hg] at e1
  refine ⟨fun h => ⟨?_, ?_⟩, fun h => ⟨?_, ?_⟩⟩
  · rw [Int.fdiv_eq_ediv_of_dvd hgt, e1, Int.sign_eq_one_of_pos h, Int.one_mul]
  · rw [Int.fdiv_eq_ediv_of_dvd hgb, e2, Int.natCast_ediv, ← hg]
    congr 1
    omega
  · rw [Int.zero_sub, Int.fdiv_eq_ediv_of_dvd ((Int.neg_dvd).mpr hgt), e1, Int.sign_eq_neg_one_of_neg h, Int.ediv_neg, Int.neg_mul, Int.one_mul, Int.neg_ediv_of_dvd hgt]
  · rw [Int.zero_sub, Int.fdiv_eq_ediv_of_dvd ((Int.neg_dvd).mpr hgb), e2, Int.ediv_neg, Int.natCast_ediv, ← hg, ← Int.neg_ediv_of_dvd hgb]
    congr 1
    omega
theorem gcd_lt {t b : Int} {n : Nat} (hb : b ≠ 0) (h : b.natAbs < 2 ^ n) : Int.gcd t b ≠ 0 ∧ Int.gcd t b < 2 ^ n := by
  have h1 : Int.gcd t b ∣ b.natAbs := Int.gcd_dvd_natAbs_right t b
  have h2 : 0 < b.natAbs := by omega
  have h3 := Nat.le_of_dvd h2 h1
  refine ⟨fun e => ?_, by omega⟩
  rw [e] at h1
  have := Nat.eq_zero_of_zero_dvd h1
  omega
theorem fraction_to {t b : Int} {P : PyData → Prop} (hb : b ≠ 0) (hn : b.natAbs < 2 ^ 8999) (h : P (fracD (Rat.divInt t b))) : (m_fraction [.int t, .int b]).To P := by
  unfold m_fraction
  rw [pure_to]
  unfold b_fraction
  obtain ⟨g0, g1⟩ := gcd_lt (t := t) hb hn
  have hp := frac_parts (t := t) hb rfl
  simp [startL]
  refine common_part_to ?_
  generalize hg : ((Int.gcd t b : Nat) : Int) = g at hp ⊢
  have c0 : g ≠ 0 := by omega
  have c1 : g.natAbs < 2 ^ 8999 := by omega
  by_cases h0 : b < 0
  · have d1 : divC t (0 - g) = true := divC_of (b := 8999) (by omega) (by omega) (by omega) (by omega)
    have d2 : divC b (0 - g) = true := divC_of (b := 8999) (by omega) (by omega) (by omega) (by omega)
    obtain ⟨e1, e2⟩ := hp.2 h0
    have h0' : ¬ 0 ≤ b := by omega
    simp only [Int.zero_sub] at d1 d2 e1 e2
    simp [h0, h0', d1, d2, e1, e2]
    exact h
  · have d1 : divC t g = true := divC_of (b := 8999) (by omega) (by omega) (by omega) (by omega)
    have d2 : divC b g = true := divC_of (b := 8999) (by omega) (by omega) (by omega) (by omega)
    obtain ⟨e1, e2⟩ := hp.1 (by omega)
    have h0' : 0 ≤ b := by omega
    simp [h0, h0', d1, d2, e1, e2]
    exact h
end NW

namespace NW
open PySem PySem.Spec PyProof.Rows L2
theorem L_common_eq : m_L_common = m_common_part := by unfold m_L_common m_common_part; rfl
theorem common_to {a b : Int} {P : PyData → Prop} (h : P (.int (Int.gcd a b : Nat))) : (m_L_common [.int a, .int b]).To P := by rw [L_common_eq]; exact common_part_to h
theorem rangeD_cons {s e : Int} {n : Nat} : rangeD s e (n + 1) = .int s :: rangeD (s + e) e n := by
  unfold rangeD
  rw [List.range_succ_eq_map, List.map_cons, List.map_map]
  refine congr (congrArg _ (by simp)) ?_
  refine List.map_congr_left fun i _ => ?_
  simp [Int.add_mul]
  omega
theorem digits_step {i d : Int} {k : Nat} (h0 : 0 ≤ i) (h1 : i < 10 ^ k) (h2 : 0 ≤ d) (h3 : d < 10) : 0 ≤ 10 * i + d ∧ 10 * i + d < 10 ^ (k + 1) := by
  rw [Int.pow_succ]; omega
theorem pow10_mono {k n : Nat} (h : k ≤ n) : (10 : Int) ^ k ≤ 10 ^ n := by
  have z := Nat.pow_le_pow_right (n := 10) (by omega) h
  have : ((10 ^ k : Nat) : Int) ≤ ((10 ^ n : Nat) : Int) := Int.ofNat_le.mpr z
  simpa using this
theorem great_to {f : Fl} (hf : FlOk f) {figs : Int} {N : Nat} (h0 : 0 ≤ figs) (h1 : figs ≤ N) (h3 : 3 ≤ N) (hN : N ≤ 60) : (m_L_great [.int figs] f).To fun d f' => ∃ i, d = .int i ∧ i.natAbs < 10 ^ N ∧ FlOk f' := by
  unfold m_L_great
  rw [flow_to]
  unfold b_L_great
  simp [startL]
  refine (pick_to hf (by omega) (by omega)).mono ?_
  rintro _ f1 ⟨i1, rfl, a1, a2, o1⟩
  refine (pick_to o1 (by omega) (by omega)).mono ?_
  rintro _ f2 ⟨i2, rfl, b1, b2, o2⟩
  refine (pick_to o2 (by omega) (by omega)).mono ?_
  rintro _ f3 ⟨i3, rfl, c1, c2, o3⟩
  have key : ∃ j : Int, (0 ≤ j ∧ j ≤ N) ∧ ((idxN 3 i3).bind fun n => [PyData.int i1, PyData.int figs, PyData.int i2][n]?) = some (.int j) := by
    have : i3 = 0 ∨ i3 = 1 ∨ i3 = 2 := by omega
    rcases this with rfl | rfl | rfl
    · exact ⟨i1, ⟨by omega, by omega⟩, rfl⟩
    · exact ⟨figs, ⟨by omega, by omega⟩, rfl⟩
    · exact ⟨i2, ⟨by omega, by omega⟩, rfl⟩
  obtain ⟨j, ⟨d1, d2⟩, e⟩ := key
  rw [to_ixL]
  refine ⟨_, e, j, rfl, decide_eq_true (by omega), ?_⟩
  refine for_to (I := fun xs l s => ∃ (n k : Nat) (lo i : Int) (v : Option U) (g : Fl), xs = rangeD lo 1 n ∧ n + k ≤ N ∧ l = [some .flow, some (.d (.int figs)), some (.d (.int i)), v] ∧ s = ⟨some g, []⟩ ∧ FlOk g ∧ 0 ≤ i ∧ i < 10 ^ k) (fun _ _ _ _ => chk_nil) ?_ ?_ _ _ _ ⟨j.toNat, 0, 0, 0, none, f3, rfl, by omega, rfl, rfl, o3, by omega, by decide⟩
  · rintro x xs l s ⟨n, k, lo, i, v, g, e1, e2, rfl, rfl, og, g1, g2⟩
    cases n with
    | zero => cases e1
    | succ n =>
      rw [rangeD_cons] at e1
      cases e1
      have h10 : i < 10 ^ 60 := Int.lt_of_lt_of_le g2 (pow10_mono (by omega))
      have hm : mulC 10 i = true := mulC_of (a := 4) (b := 240) (by decide) (by omega) (by omega) (by omega) (by omega)
      simp [hm]
      refine (pick_to og (by omega) (by omega)).mono ?_
      rintro _ g' ⟨t, rfl, t1, t2, og'⟩
      obtain ⟨y1, y2⟩ := digits_step g1 g2 t1 t2
      simp
      exact ⟨n, ⟨_, rfl⟩, k + 1, by omega, og', y1, y2⟩
  · rintro l s ⟨n, k, lo, i, v, g, e1, e2, rfl, rfl, og, g1, g2⟩
    have hN' : i < 10 ^ N := Int.lt_of_lt_of_le g2 (pow10_mono (by omega))
    simp
    refine (pick_to og (by omega) (by omega)).mono ?_
    rintro _ g' ⟨t, rfl, t1, t2, og'⟩
    have : t = 0 ∨ t = 1 := by omega
    have hc : ((10 ^ N : Nat) : Int) = 10 ^ N := by simp
    rcases this with rfl | rfl
    · simp; exact ⟨by omega, og'⟩
    · simp; exact ⟨by omega, og'⟩
end NW

namespace NW
open PySem PySem.Spec PyProof.Rows L2
theorem num_le (t b : Int) (hb : b ≠ 0) : (Rat.divInt t b).num.natAbs ≤ t.natAbs := by
  rw [Rat.num_divInt]
  refine Nat.le_trans (Int.natAbs_ediv_le_natAbs _ _) ?_
  rw [Int.natAbs_mul, Int.natAbs_sign_of_ne_zero hb, Nat.one_mul]
  exact Nat.le_refl _
theorem den_le (t b : Int) (hb : b ≠ 0) : (Rat.divInt t b).den ≤ b.natAbs := by
  rw [Rat.den_divInt, if_neg hb]
  exact Nat.div_le_self _ _
theorem cross (t b : Int) (hb : b ≠ 0) : (Rat.divInt t b).num * b = t * (Rat.divInt t b).den := by
  have h := Rat.num_divInt_den (Rat.divInt t b)
  exact (Rat.divInt_eq_divInt_iff (by have := (Rat.divInt t b).den_pos; omega) hb).mp h
/-- a comprehension without looks at the state -/
theorem lc_map {its : List PyData} {vs : List Nat} {t : MT} {c : MB} {m : ME} {l : Loc} {st : Sto} {g : PyData → PyData} {P : List PyData → Sto → Prop} {xs : List PyData}
    (h : ∀ x, x ∈ xs → (t (.d x) (wipeL l vs) st).To fun l1 s => (c l1 s).To fun b s => b = true ∧ (m l1 s).To fun u s => u = .d (g x) ∧ s = st) (fin : P (xs.map g) st) : (lcM ⟨its, []⟩ vs t c m l xs st).To P := by
  refine (lc_to (I := fun ys acc s => s = st ∧ ∃ zs, xs = zs ++ ys ∧ acc = zs.map g) (P := fun ys s => ys = xs.map g ∧ s = st) (fun _ _ _ _ => chk_nil) ?_ ?_ xs [] st ⟨rfl, [], rfl, rfl⟩).mono ?_
  · rintro x ys acc s ⟨rfl, zs, rfl, rfl⟩
    refine (h x (by simp)).mono ?_
    rintro l1 s1 h1
    refine h1.mono ?_
    rintro b s2 ⟨rfl, h2⟩
    rw [if_pos rfl]
    refine h2.mono ?_
    rintro u s3 ⟨rfl, rfl⟩
    exact ⟨_, rfl, rfl, zs ++ [x], by simp, by simp⟩
  · rintro acc s ⟨rfl, zs, rfl, rfl⟩
    simp
  · rintro ys s ⟨rfl, rfl⟩
    exact fin
theorem cAll_yes {st : Sto} {Q : U → Sto → Prop} {xs : List PyData} (h : Q (.d (.bool true)) st) : (cAll [.d (.list (xs.map fun _ => .bool true))] st).To Q := by
  have e : (xs.map fun _ => PyData.bool true) = (xs.map fun _ => true).map .bool := by rw [List.map_map]; rfl
  rw [e, to_cAll]
  have : (xs.map fun _ => true).all id = true := by simp
  rw [this]; exact h
@[simp] theorem ty_int : tyOk "int" = true := rfl
@[simp] theorem ty_bool : tyOk "bool" = true := rfl
@[simp] theorem ty_str : tyOk "str" = true := rfl
@[simp] theorem ty_list : tyOk "list" = true := rfl
@[simp] theorem ty_tuple : tyOk "tuple" = true := rfl
@[simp] theorem isi_int_int {i : Int} : isiT (.int i) "int" = true := rfl
@[simp] theorem isi_int_bool {i : Int} : isiT (.int i) "bool" = false := rfl
@[simp] theorem isi_int_str {i : Int} : isiT (.int i) "str" = false := rfl
@[simp] theorem isi_int_list {i : Int} : isiT (.int i) "list" = false := rfl
@[simp] theorem isi_int_tuple {i : Int} : isiT (.int i) "tuple" = false := rfl
@[simp] theorem isi_int_dict {i : Int} : isiT (.int i) "dict" = false := rfl
@[simp] theorem isi_bool_int {i : Bool} : isiT (.bool i) "int" = true := rfl
@[simp] theorem isi_bool_bool {i : Bool} : isiT (.bool i) "bool" = true := rfl
@[simp] theorem isi_bool_str {i : Bool} : isiT (.bool i) "str" = false := rfl
@[simp] theorem isi_bool_list {i : Bool} : isiT (.bool i) "list" = false := rfl
@[simp] theorem isi_bool_tuple {i : Bool} : isiT (.bool i) "tuple" = false := rfl
@[simp] theorem isi_bool_dict {i : Bool} : isiT (.bool i) "dict" = false := rfl
@[simp] theorem isi_list_int {i : List PyData} : isiT (.list i) "int" = false := rfl
@[simp] theorem isi_list_bool {i : List PyData} : isiT (.list i) "bool" = false := rfl
@[simp] theorem isi_list_str {i : List PyData} : isiT (.list i) "str" = false := rfl
@[simp] theorem isi_list_list {i : List PyData} : isiT (.list i) "list" = true := rfl
@[simp] theorem isi_list_tuple {i : List PyData} : isiT (.list i) "tuple" = false := rfl
@[simp] theorem isi_list_dict {i : List PyData} : isiT (.list i) "dict" = false := rfl
@[simp] theorem isi_tuple_int {i : List PyData} : isiT (.tuple i) "int" = false := rfl
@[simp] theorem isi_tuple_bool {i : List PyData} : isiT (.tuple i) "bool" = false := rfl
@[simp] theorem isi_tuple_str {i : List PyData} : isiT (.tuple i) "str" = false := rfl
@[simp] theorem isi_tuple_list {i : List PyData} : isiT (.tuple i) "list" = false := rfl
@[simp] theorem isi_tuple_tuple {i : List PyData} : isiT (.tuple i) "tuple" = true := rfl
@[simp] theorem isi_tuple_dict {i : List PyData} : isiT (.tuple i) "dict" = false := rfl
@[simp] theorem isi_none_int  : isiT .none "int" = false := rfl
@[simp] theorem isi_none_bool  : isiT .none "bool" = false := rfl
@[simp] theorem isi_none_str  : isiT .none "str" = false := rfl
@[simp] theorem isi_none_list  : isiT .none "list" = false := rfl
@[simp] theorem isi_none_tuple  : isiT .none "tuple" = false := rfl
@[simp] theorem isi_none_dict  : isiT .none "dict" = false := rfl
@[simp] theorem isi_str_int {i : Str} : isiT (.str i) "int" = false := rfl
@[simp] theorem isi_str_bool {i : Str} : isiT (.str i) "bool" = false := rfl
@[simp] theorem isi_str_str {i : Str} : isiT (.str i) "str" = true := rfl
@[simp] theorem isi_str_list {i : Str} : isiT (.str i) "list" = false := rfl
@[simp] theorem isi_str_tuple {i : Str} : isiT (.str i) "tuple" = false := rfl
@[simp] theorem isi_str_dict {i : Str} : isiT (.str i) "dict" = false := rfl
end NW

namespace NW
open PySem PySem.Spec PyProof.Rows L2
@[simp] theorem shaped_frac {q : Rat} : SeqAt.shaped (fracD q) = true := by
  simp [fracD, SeqAt.shaped, PyData.canLay0, PyData.canLayAll0, PyData.depth, PyData.depthAll]
@[simp] theorem eqv_frac {p q : Rat} : PyData.eqv (fracD p) (fracD q) = decide (p = q) := by
  rw [Bool.eq_iff_iff]
  simp [fracD, PyData.eqv, PyData.eqvAll]
  constructor
  · rintro ⟨a, b⟩
    exact Rat.ext a (by omega)
  · rintro rfl; simp
theorem bump {p : Int} (h : p.natAbs < 10 ^ 20) : p + (if p = 0 then 1 else 0) ≠ 0 ∧ (p + (if p = 0 then 1 else 0)).natAbs < 2 ^ 80 := by
  split <;> omega
theorem mul_lt {i j : Int} {a b c : Nat} (ha : i.natAbs < 2 ^ a) (hb : j.natAbs < 2 ^ b) (h : a + b ≤ c) : (i * j).natAbs < 2 ^ c := by
  rw [Int.natAbs_mul]
  refine Nat.lt_of_lt_of_le (Nat.mul_lt_mul'' ha hb) ?_
  rw [← Nat.pow_add]
  exact Nat.pow_le_pow_right (by omega) h
end NW

namespace NW
open PySem PySem.Spec PyProof.Rows L2
/-! ### alike: the same tree -/
section
variable {l : Loc} {st : Sto} {Q : U → Sto → Prop}
@[simp] theorem to_isiT {m : ME} {Ts : List String} : (eIsiT m Ts l st).To Q ↔ (m l st).To fun u s => ∃ x, toTree s u = some x ∧ (Ts.all tyOk && decide (Ts.length ≤ 8)) = true ∧ Q (.d (.bool (Ts.any (isiT x)))) s := by
  unfold eIsiT
  rw [to_bind]
  cases m l st with
  | ok u s => simp only [to_ok]; cases toTree s u <;> simp
  | _ => exact Iff.rfl
end
/-- a tree of at most so many layers, without dicts -/
def Lk : Nat → PyData → Prop
  | 0, _ => False
  | n + 1, .list xs => xs.length ≤ 16777216 ∧ ∀ x ∈ xs, Lk n x
  | n + 1, .tuple xs => xs.length ≤ 16777216 ∧ ∀ x ∈ xs, Lk n x
  | _ + 1, .dict _ => False
  | _ + 1, .str z => (PyData.str z).canLay0 = true
  | _ + 1, _ => True
theorem Lk.mono {n m : Nat} {d : PyData} (h : Lk n d) (k : n ≤ m) : Lk m d := by
  induction n generalizing m d with
  | zero => exact h.elim
  | succ n ih =>
    obtain ⟨m, rfl⟩ : ∃ j, m = j + 1 := ⟨m - 1, by omega⟩
    cases d with
    | list xs => exact ⟨h.1, fun x hx => ih (h.2 x hx) (by omega)⟩
    | tuple xs => exact ⟨h.1, fun x hx => ih (h.2 x hx) (by omega)⟩
    | _ => exact h
theorem range_mem {n : Nat} {x : PyData} (h : x ∈ rangeD 0 1 n) : ∃ i : Nat, i < n ∧ x = .int i := by
  unfold rangeD at h
  obtain ⟨i, hi, rfl⟩ := List.mem_map.mp h
  exact ⟨i, List.mem_range.mp hi, by simp⟩
@[simp] theorem range_len {a b : Int} {n : Nat} : (rangeD a b n).length = n := by simp [rangeD]
theorem alike_to : ∀ (n : Nat) (d : PyData), Lk n d → (m_L_alike n [d, d]).To fun x => x = .bool true := by
  intro n
  induction n with
  | zero => intro d h; exact h.elim
  | succ n ih =>
    intro d h
    rw [s_L_alike, pure_to]
    unfold b_L_alike
    cases d with
    | list xs =>
      have h1 := h.1
      simp [startL, h1]
      refine ⟨decide_eq_true (by omega), by omega, ?_⟩
      refine lc_map (g := fun _ => .bool true) ?_ ?_
      rotate_left
      · exact cAll_yes (by exact rfl)
      intro x hx
      obtain ⟨i, hi, rfl⟩ := range_mem hx
      simp [wipeL, idxN_nat hi, hi]
      exact (ih _ (h.2 _ (List.getElem_mem hi))).mono fun d hd => hd
    | tuple xs => 
      have h1 := h.1
      simp [startL, h1]
      refine ⟨decide_eq_true (by omega), by omega, ?_⟩
      refine lc_map (g := fun _ => .bool true) ?_ ?_
      rotate_left
      · exact cAll_yes (by exact rfl)
      intro x hx
      obtain ⟨i, hi, rfl⟩ := range_mem hx
      simp [wipeL, idxN_nat hi, hi]
      exact (ih _ (h.2 _ (List.getElem_mem hi))).mono fun d hd => hd
    | dict xs => exact h.elim
    | str z =>
      have hs : SeqAt.shaped (.str z) = true := by
        unfold SeqAt.shaped
        rw [show (PyData.str z).canLay0 = true from h]; simp [PyData.depth]
      simp [startL, hs, PySem.SeqAt.eqv_refl _ h]
    | int i => simp [startL]
    | bool i => simp [startL]
    | none => simp [startL]; rfl
theorem lk_frac {n : Nat} {q : Rat} : Lk (n + 2) (fracD q) := ⟨by simp, fun x hx => by
  simp at hx
  rcases hx with rfl | rfl <;> trivial⟩
end NW

namespace NW
open PySem PySem.Spec PyProof.Rows L2
theorem L_fraction_eq : m_L_fraction = m_fraction := by
  unfold m_L_fraction m_fraction b_L_fraction b_fraction
  rw [L_common_eq]
theorem L_fraction_to {t b : Int} {P : PyData → Prop} (hb : b ≠ 0) (hn : b.natAbs < 2 ^ 8999) (h : P (fracD (Rat.divInt t b))) : (m_L_fraction [.int t, .int b]).To P := by rw [L_fraction_eq]; exact fraction_to hb hn h
/-- a fraction of so many bits -/
def FB (n : Nat) (q : Rat) : Prop := q.num.natAbs < 2 ^ n ∧ q.den < 2 ^ n
theorem FB.mono {n m : Nat} {q : Rat} (h : FB n q) (k : n ≤ m) : FB m q := ⟨Nat.lt_of_lt_of_le h.1 (Nat.pow_le_pow_right (by omega) k), Nat.lt_of_lt_of_le h.2 (Nat.pow_le_pow_right (by omega) k)⟩
theorem FB.of_divInt {n : Nat} {t b : Int} (hb : b ≠ 0) (h1 : t.natAbs < 2 ^ n) (h2 : b.natAbs < 2 ^ n) : FB n (Rat.divInt t b) :=
  ⟨Nat.lt_of_le_of_lt (num_le t b hb) h1, Nat.lt_of_le_of_lt (den_le t b hb) h2⟩
theorem mk_div (a : Int) (m n : Nat) : Rat.divInt a ((m : Int) * (n : Int)) = mkRat a (m * n) := by
  rw [← Int.natCast_mul]; rfl
theorem add_divInt (p q : Rat) : Rat.divInt (p.num * q.den + q.num * p.den) (p.den * q.den) = p + q := by
  rw [Rat.add_def', mk_div]
theorem sub_divInt (p q : Rat) : Rat.divInt (p.num * q.den - q.num * p.den) (p.den * q.den) = p - q := by
  rw [Rat.sub_def', mk_div]
theorem mul_divInt (p q : Rat) : Rat.divInt (p.num * q.num) (p.den * q.den) = p * q := by
  rw [Rat.mul_def', mk_div]
theorem div_divInt (p q : Rat) : Rat.divInt (p.num * q.den) (p.den * q.num) = p / q := by
  rw [Rat.div_def, Rat.inv_def]
  conv => rhs; rw [← Rat.num_divInt_den p]
  rw [Rat.divInt_mul_divInt]
theorem den_ne (q : Rat) : (q.den : Int) ≠ 0 := by have := q.den_pos; omega
theorem two_lt {i j : Int} {n : Nat} (h1 : i.natAbs < 2 ^ n) (h2 : j.natAbs < 2 ^ n) (h : n ≤ 4400) : (i * j).natAbs < 2 ^ 8999 := mul_lt h1 h2 (by omega)
theorem FB.m {n : Nat} {i j : Int} (h1 : i.natAbs < 2 ^ n) (h2 : j.natAbs < 2 ^ n) (h0 : 0 < n) (h : n ≤ 4400) : mulC i j = true := mulC_of h1 h2 h0 h0 (by omega)
theorem two_ltx {i j : Int} {a b : Nat} (h1 : i.natAbs < 2 ^ a) (h2 : j.natAbs < 2 ^ b) (h : a + b ≤ 8999) : (i * j).natAbs < 2 ^ 8999 := by
  rw [Int.natAbs_mul]
  refine Nat.lt_of_lt_of_le (Nat.mul_lt_mul'' h1 h2) ?_
  rw [← Nat.pow_add]
  exact Nat.pow_le_pow_right (by omega) h
theorem mx {a b : Nat} {i j : Int} (h1 : i.natAbs < 2 ^ a) (h2 : j.natAbs < 2 ^ b) (h : a + b ≤ 8999) : mulC i j = true := mulC_of (a := a + 1) (b := b + 1) (Nat.lt_of_lt_of_le h1 (Nat.pow_le_pow_right (by omega) (by omega))) (Nat.lt_of_lt_of_le h2 (Nat.pow_le_pow_right (by omega) (by omega))) (by omega) (by omega) (by omega)
section
variable {p q : Rat} {n a' b' : Nat} {P : PyData → Prop}
theorem addedx (hp : FB a' p) (hq : FB b' q) (h : a' + b' ≤ 8999) (k : P (fracD (p + q))) : (m_added [fracD p, fracD q]).To P := by
  obtain ⟨a, b⟩ := hp
  obtain ⟨c, d⟩ := hq
  have e1 : mulC p.num q.den = true := mx a d h
  have e2 : mulC q.num p.den = true := mx c b (by omega)
  have e3 : mulC p.den q.den = true := mx b d h
  unfold m_added
  rw [pure_to]
  unfold b_added
  simp [startL, fracD, e1, e2, e3]
  refine fraction_to (Int.mul_ne_zero (den_ne p) (den_ne q)) (two_ltx b d h) ?_
  rw [add_divInt]; exact k
theorem takenx (hp : FB a' p) (hq : FB b' q) (h : a' + b' ≤ 8999) (k : P (fracD (p - q))) : (m_taken [fracD p, fracD q]).To P := by
  obtain ⟨a, b⟩ := hp
  obtain ⟨c, d⟩ := hq
  have e1 : mulC p.num q.den = true := mx a d h
  have e2 : mulC q.num p.den = true := mx c b (by omega)
  have e3 : mulC p.den q.den = true := mx b d h
  unfold m_taken
  rw [pure_to]
  unfold b_taken
  simp [startL, fracD, e1, e2, e3]
  refine fraction_to (Int.mul_ne_zero (den_ne p) (den_ne q)) (two_ltx b d h) ?_
  rw [sub_divInt]; exact k
theorem multipliedx (hp : FB a' p) (hq : FB b' q) (h : a' + b' ≤ 8999) (k : P (fracD (p * q))) : (m_multiplied [fracD p, fracD q]).To P := by
  obtain ⟨a, b⟩ := hp
  obtain ⟨c, d⟩ := hq
  have e1 : mulC p.num q.num = true := mx a c h
  have e3 : mulC p.den q.den = true := mx b d h
  unfold m_multiplied
  rw [pure_to]
  unfold b_multiplied
  simp [startL, fracD, e1, e3]
  refine fraction_to (Int.mul_ne_zero (den_ne p) (den_ne q)) (two_ltx b d h) ?_
  rw [mul_divInt]; exact k
theorem dividedx (hp : FB a' p) (hq : FB b' q) (hz : q ≠ 0) (h : a' + b' ≤ 8999) (k : P (fracD (p / q))) : (m_divided [fracD p, fracD q]).To P := by
  obtain ⟨a, b⟩ := hp
  obtain ⟨c, d⟩ := hq
  have e1 : mulC p.num q.den = true := mx a d h
  have e3 : mulC p.den q.num = true := mx b c h
  have hz' : q.num ≠ 0 := fun e => hz (Rat.num_eq_zero.mp e)
  unfold m_divided
  rw [pure_to]
  unfold b_divided
  simp [startL, fracD, e1, e3]
  refine fraction_to (Int.mul_ne_zero (den_ne p) hz') (two_ltx b c h) ?_
  rw [div_divInt]; exact k
theorem added_to (hp : FB n p) (hq : FB n q) (h0 : 0 < n) (h : n ≤ 4400) (k : P (fracD (p + q))) : (m_added [fracD p, fracD q]).To P := addedx hp hq (by omega) k
theorem taken_to (hp : FB n p) (hq : FB n q) (h0 : 0 < n) (h : n ≤ 4400) (k : P (fracD (p - q))) : (m_taken [fracD p, fracD q]).To P := takenx hp hq (by omega) k
theorem multiplied_to (hp : FB n p) (hq : FB n q) (h0 : 0 < n) (h : n ≤ 4400) (k : P (fracD (p * q))) : (m_multiplied [fracD p, fracD q]).To P := multipliedx hp hq (by omega) k
theorem divided_to (hp : FB n p) (hq : FB n q) (hz : q ≠ 0) (h0 : 0 < n) (h : n ≤ 4400) (k : P (fracD (p / q))) : (m_divided [fracD p, fracD q]).To P := dividedx hp hq hz (by omega) k
end
theorem FB.add {p q : Rat} {n : Nat} (hp : FB n p) (hq : FB n q) : FB (2 * n + 1) (p + q) := by
  rw [← add_divInt]
  refine FB.of_divInt (Int.mul_ne_zero (den_ne p) (den_ne q)) ?_ (mul_lt hp.2 hq.2 (by omega))
  have e1 : (p.num * q.den).natAbs < 2 ^ (2 * n) := mul_lt hp.1 hq.2 (by omega)
  have e2 : (q.num * p.den).natAbs < 2 ^ (2 * n) := mul_lt hq.1 hp.2 (by omega)
  have : 2 ^ (2 * n + 1) = 2 * 2 ^ (2 * n) := by rw [Nat.pow_succ, Nat.mul_comm]
  omega
theorem FB.sub {p q : Rat} {n : Nat} (hp : FB n p) (hq : FB n q) : FB (2 * n + 1) (p - q) := by
  rw [← sub_divInt]
  refine FB.of_divInt (Int.mul_ne_zero (den_ne p) (den_ne q)) ?_ (mul_lt hp.2 hq.2 (by omega))
  have e1 : (p.num * q.den).natAbs < 2 ^ (2 * n) := mul_lt hp.1 hq.2 (by omega)
  have e2 : (q.num * p.den).natAbs < 2 ^ (2 * n) := mul_lt hq.1 hp.2 (by omega)
  have : 2 ^ (2 * n + 1) = 2 * 2 ^ (2 * n) := by rw [Nat.pow_succ, Nat.mul_comm]
  omega
theorem FB.mul {p q : Rat} {n : Nat} (hp : FB n p) (hq : FB n q) : FB (2 * n) (p * q) := by
  rw [← mul_divInt]
  exact FB.of_divInt (Int.mul_ne_zero (den_ne p) (den_ne q)) (mul_lt hp.1 hq.1 (by omega)) (mul_lt hp.2 hq.2 (by omega))
theorem FB.div {p q : Rat} {n : Nat} (hp : FB n p) (hq : FB n q) (hz : q ≠ 0) : FB (2 * n) (p / q) := by
  have hz' : q.num ≠ 0 := fun e => hz (Rat.num_eq_zero.mp e)
  rw [← div_divInt]
  exact FB.of_divInt (Int.mul_ne_zero (den_ne p) hz') (mul_lt hp.1 hq.2 (by omega)) (mul_lt hp.2 hq.1 (by omega))
theorem FB.neg {p : Rat} {n : Nat} (hp : FB n p) : FB n (-p) := by
  unfold FB; rw [Rat.neg_num, Rat.neg_den, Int.natAbs_neg]; exact hp
theorem FB.zero {n : Nat} (h : 0 < n) : FB n 0 := ⟨Nat.two_pow_pos n, by have : 2 ≤ 2 ^ n := Nat.le_self_pow (by omega) 2; show 1 < 2 ^ n; omega⟩
theorem FB.one {n : Nat} (h : 0 < n) : FB n 1 := ⟨by have : 2 ≤ 2 ^ n := Nat.le_self_pow (by omega) 2; show 1 < 2 ^ n; omega, by have : 2 ≤ 2 ^ n := Nat.le_self_pow (by omega) 2; show 1 < 2 ^ n; omega⟩
end NW

namespace NW
open PySem PySem.Spec PyProof.Rows L2
section
variable {st : Sto} {Q : U → Sto → Prop} {q : Rat}
@[simp] theorem to_ixF0 : (fIx (.d (fracD q)) (.d (.int 0)) st).To Q ↔ Q (.d (.int q.num)) st := Iff.rfl
@[simp] theorem to_ixF1 : (fIx (.d (fracD q)) (.d (.int 1)) st).To Q ↔ Q (.d (.int q.den)) st := Iff.rfl
end
theorem bump2 {p : Int} {N : Nat} (h : p.natAbs < 10 ^ N) (h3 : 3 ≤ N) : p + (if p = 0 then 1 else 0) ≠ 0 ∧ (p + (if p = 0 then 1 else 0)).natAbs < 2 ^ (4 * N) := by
  have : 10 ^ N < 2 ^ (4 * N) := by rw [Nat.pow_mul]; exact Nat.pow_lt_pow_left (by decide) (by omega)
  have : 10 ^ 3 ≤ 10 ^ N := Nat.pow_le_pow_right (by omega) h3
  split <;> omega
theorem great_frac_to {f : Fl} (hf : FlOk f) {figs : Int} {N : Nat} (h0 : 0 ≤ figs) (h1 : figs ≤ N) (h3 : 3 ≤ N) (hN : N ≤ 60) : (m_L_great_fraction [.int figs] f).To fun d f' => ∃ q, d = fracD q ∧ FB (4 * N) q ∧ FlOk f' := by
  unfold m_L_great_fraction
  rw [flow_to]
  unfold b_L_great_fraction
  simp [startL]
  refine (great_to hf h0 h1 h3 hN).mono ?_
  rintro _ g1 ⟨b, rfl, b1, og1⟩
  refine (great_to og1 h0 h1 h3 hN).mono ?_
  rintro _ g2 ⟨t, rfl, t1, og2⟩
  simp
  obtain ⟨c1, c2⟩ := bump2 b1 h3
  have t2 : t.natAbs < 2 ^ (4 * N) := Nat.lt_of_lt_of_le t1 (by rw [Nat.pow_mul]; exact Nat.pow_le_pow_left (by decide) _)
  refine L_fraction_to c1 (Nat.lt_of_lt_of_le c2 (Nat.pow_le_pow_right (by omega) (by omega))) ?_
  exact ⟨_, rfl, FB.of_divInt c1 t2 c2, og2⟩
end NW
namespace NW
open PySem PySem.Spec PyProof.Rows L2
theorem len3 {xs : List PyData} (h : xs.length = 3) : ∃ a b c, xs = [a, b, c] := by
  match xs, h with
  | [a, b, c], _ => exact ⟨a, b, c, rfl⟩
/-- a comprehension that draws -/
theorem lc_draw {its : List PyData} {vs : List Nat} {t : MT} {c : MB} {m : ME} {l : NW.Loc} {o : List Ob} {p : PyData → Prop} {P : List PyData → Sto → Prop} {xs : List PyData} {g : Fl}
    (h : ∀ x, x ∈ xs → ∀ g, FlOk g → (t (.d x) (wipeL l vs) ⟨some g, o⟩).To fun l1 s => (c l1 s).To fun b s => b = true ∧ (m l1 s).To fun u s => ∃ y, u = .d y ∧ ∃ g', s = ⟨some g', o⟩ ∧ FlOk g' ∧ p y) (hg : FlOk g)
    (fin : ∀ ys g', ys.length = xs.length → (∀ y, y ∈ ys → p y) → FlOk g' → P ys ⟨some g', o⟩) : (lcM ⟨its, []⟩ vs t c m l xs ⟨some g, o⟩).To P := by
  refine (lc_to (I := fun ys acc s => ∃ g, s = ⟨some g, o⟩ ∧ FlOk g ∧ (∃ zs, xs = zs ++ ys ∧ acc.length = zs.length) ∧ ∀ y, y ∈ acc → p y) (P := fun ys s => ∃ g, s = ⟨some g, o⟩ ∧ FlOk g ∧ ys.length = xs.length ∧ ∀ y, y ∈ ys → p y) (fun _ _ _ _ => chk_nil) ?_ ?_ xs [] _ ⟨g, rfl, hg, ⟨[], rfl, rfl⟩, by simp⟩).mono ?_
  · rintro x ys acc s ⟨g, rfl, og, ⟨zs, rfl, hz⟩, hp⟩
    refine (h x (by simp) g og).mono ?_
    rintro l1 s1 h1
    refine h1.mono ?_
    rintro b s2 ⟨rfl, h2⟩
    rw [if_pos rfl]
    refine h2.mono ?_
    rintro u s3 ⟨y, rfl, g', rfl, og', py⟩
    refine ⟨_, rfl, g', rfl, og', ⟨zs ++ [x], by simp, by simp [hz]⟩, fun w hw => ?_⟩
    rcases List.mem_append.mp hw with hw | hw
    · exact hp w hw
    · have : w = y := by simpa using hw
      subst this; exact py
  · rintro acc s ⟨g, rfl, og, ⟨zs, rfl, hz⟩, hp⟩
    exact ⟨g, rfl, og, by simp [hz], hp⟩
  · rintro ys s ⟨g, rfl, og, hl, hp⟩
    exact fin ys g hl hp og
end NW

namespace NW
/-! ### polynomials: whole numbers over one bottom -/
/-- the greatest common divisor of all -/
def gs (g : Nat) : List Int → Nat
  | [] => g
  | t :: ts => gs (Int.gcd g t) ts
theorem gs_dvd {d : Nat} : ∀ {ts : List Int} {g : Nat}, d ∣ gs g ts ↔ d ∣ g ∧ ∀ t, t ∈ ts → (d : Int) ∣ t
  | [], g => by simp [gs]
  | t :: ts, g => by
    rw [gs, gs_dvd, Int.gcd]
    rw [Nat.dvd_gcd_iff]
    simp only [List.mem_cons, forall_eq_or_imp, Int.natAbs_natCast]
    rw [and_assoc, ← Int.ofNat_dvd_left]
theorem gs_mul {c : Nat} : ∀ {ts : List Int} {g : Nat}, gs (c * g) (ts.map fun t => (c : Int) * t) = c * gs g ts
  | [], g => rfl
  | t :: ts, g => by
    rw [List.map_cons, gs, gs]
    have : Int.gcd ((c * g : Nat) : Int) ((c : Int) * t) = c * Int.gcd g t := by
      rw [Int.natCast_mul, Int.gcd_mul_left, Int.natAbs_natCast]
    rw [this]; exact gs_mul
theorem gs_pos {ts : List Int} {g : Nat} (h : 0 < g) : 0 < gs g ts := by
  have := (gs_dvd (d := gs g ts)).mp (Nat.dvd_refl _)
  rcases Nat.eq_zero_or_pos (gs g ts) with e | e
  · rw [e] at this
    have := Nat.eq_zero_of_zero_dvd this.1
    omega
  · exact e
/-- the last one is not 0 -/
def Tr : List Int → Prop
  | [] => True
  | [t] => t ≠ 0
  | _ :: t :: ts => Tr (t :: ts)
theorem Tr.tail {t : Int} {ts : List Int} (h : Tr (t :: ts)) : Tr ts := by
  cases ts with
  | nil => trivial
  | cons u us => exact h
theorem tr_get {ts : List Int} (h : Tr ts) (hn : ts ≠ []) : ts.getD (ts.length - 1) 0 ≠ 0 := by
  induction ts with
  | nil => exact absurd rfl hn
  | cons t ts ih =>
    cases ts with
    | nil => simpa [Tr] using h
    | cons u us =>
      have := ih h (by simp)
      simpa using this
theorem tr_of {ts : List Int} (h : ts ≠ [] → ts.getD (ts.length - 1) 0 ≠ 0) : Tr ts := by
  induction ts with
  | nil => trivial
  | cons t ts ih =>
    cases ts with
    | nil => simpa [Tr] using h
    | cons u us => exact ih fun _ => by simpa using h (by simp)
theorem tr_ext {ts us : List Int} (h : Tr ts) (h' : Tr us) (e : ∀ k, ts.getD k 0 = us.getD k 0) : ts = us := by
  have len : ∀ {ts us : List Int}, Tr ts → (∀ k, ts.getD k 0 = us.getD k 0) → ts.length ≤ us.length := by
    intro ts us h e
    cases ts with
    | nil => simp
    | cons t ts =>
      have h1 := tr_get h (by simp)
      rw [e] at h1
      by_cases hl : (t :: ts).length ≤ us.length
      · exact hl
      · rw [List.getD_eq_getElem?_getD, List.getElem?_eq_none (by simp at hl ⊢; omega)] at h1
        simp at h1
  have l : ts.length = us.length := Nat.le_antisymm (len h e) (len h' fun k => (e k).symm)
  refine List.ext_getElem l fun i h1 h2 => ?_
  have := e i
  simpa [List.getD_eq_getElem?_getD, h1, h2] using this
structure Pol where
  ts : List Int
  b : Nat
  hb : 0 < b
  ht : Tr ts
  hg : gs b ts = 1
def Pol.co (p : Pol) (k : Nat) : Rat := Rat.divInt (p.ts.getD k 0) p.b
theorem Pol.ext_co {p q : Pol} (h : ∀ k, p.co k = q.co k) : p = q := by
  have hp := p.hb
  have hq := q.hb
  have key : ∀ k, (q.b : Int) * p.ts.getD k 0 = (p.b : Int) * q.ts.getD k 0 := fun k => by
    have := (Rat.divInt_eq_divInt_iff (by omega) (by omega)).mp (h k)
    rw [Int.mul_comm, this, Int.mul_comm]
  have dv : ∀ {p q : Pol}, (∀ k, (q.b : Int) * p.ts.getD k 0 = (p.b : Int) * q.ts.getD k 0) → p.b ∣ q.b := by
    intro p q key
    have e := gs_mul (c := q.b) (ts := p.ts) (g := p.b)
    rw [p.hg, Nat.mul_one] at e
    rw [← e]
    refine gs_dvd.mpr ⟨Nat.dvd_mul_left _ _, fun t ht => ?_⟩
    obtain ⟨u, hu, rfl⟩ := List.mem_map.mp ht
    obtain ⟨k, hk, rfl⟩ := List.getElem_of_mem hu
    have := key k
    rw [List.getD_eq_getElem?_getD, List.getElem?_eq_getElem hk] at this
    simp only [Option.getD_some] at this
    rw [this]
    exact Int.dvd_mul_right _ _
  have e : p.b = q.b := Nat.dvd_antisymm (dv key) (dv fun k => (key k).symm)
  have e2 : p.ts = q.ts := tr_ext p.ht q.ht fun k => by
    have := key k
    rw [e] at this
    exact Int.eq_of_mul_eq_mul_left (by omega) this
  cases p; cases q; cases e; cases e2; rfl
end NW

namespace NW
theorem getD_map {f : Int → Int} (h : f 0 = 0) (ts : List Int) (k : Nat) : (ts.map f).getD k 0 = f (ts.getD k 0) := by
  rw [List.getD_eq_getElem?_getD, List.getD_eq_getElem?_getD, List.getElem?_map]
  cases ts[k]? <;> simp [h]
theorem mem_getD {ts : List Int} {t : Int} (h : t ∈ ts) : ∃ k, ts.getD k 0 = t := by
  obtain ⟨k, hk, rfl⟩ := List.getElem_of_mem h
  exact ⟨k, by simp [List.getD_eq_getElem?_getD, hk]⟩
theorem gs_mem {ts : List Int} {g : Nat} {k : Nat} : ((gs g ts : Nat) : Int) ∣ ts.getD k 0 := by
  rw [List.getD_eq_getElem?_getD]
  cases e : ts[k]? with
  | none => simp
  | some t => exact (gs_dvd.mp (Nat.dvd_refl _)).2 t (List.mem_of_getElem? e)
theorem gs_self {ts : List Int} {g : Nat} : gs g ts ∣ g := (gs_dvd.mp (Nat.dvd_refl _)).1
/-- in lowest terms -/
def mkT (ts : List Int) (h : Tr ts) (b : Nat) (hb : 0 < b) : Pol where
  ts := ts.map fun t => t / (gs b ts : Nat)
  b := b / gs b ts
  hb := Nat.div_pos (Nat.le_of_dvd hb gs_self) (gs_pos hb)
  ht := tr_of fun hn => by
    have hn' : ts ≠ [] := fun e => hn (by rw [e]; rfl)
    rw [List.length_map, getD_map (by simp)]
    intro e
    have z := tr_get h hn'
    have d := gs_mem (ts := ts) (g := b) (k := ts.length - 1)
    have c := Int.ediv_mul_cancel d
    rw [e, Int.zero_mul] at c
    exact z c.symm
  hg := by
    have hp := gs_pos (ts := ts) hb
    have e := gs_mul (c := gs b ts) (ts := ts.map fun t => t / (gs b ts : Nat)) (g := b / gs b ts)
    rw [Nat.mul_div_cancel' gs_self, List.map_map] at e
    have e2 : (ts.map ((fun t => ((gs b ts : Nat) : Int) * t) ∘ fun t => t / (gs b ts : Nat))) = ts := by
      conv => rhs; rw [← List.map_id ts]
      refine List.map_congr_left fun t ht => ?_
      exact Int.mul_ediv_cancel' ((gs_dvd.mp (Nat.dvd_refl _)).2 t ht)
    rw [e2] at e
    have : gs b ts * 1 = gs b ts * gs (b / gs b ts) (ts.map fun t => t / (gs b ts : Nat)) := by rw [Nat.mul_one]; exact e
    exact (Nat.eq_of_mul_eq_mul_left hp this).symm
theorem co_mkT {ts : List Int} {h : Tr ts} {b : Nat} {hb : 0 < b} {k : Nat} : (mkT ts h b hb).co k = Rat.divInt (ts.getD k 0) b := by
  have hp := gs_pos (ts := ts) hb
  unfold Pol.co mkT
  rw [getD_map (by simp)]
  show Rat.divInt (ts.getD k 0 / (gs b ts : Nat)) ((b / gs b ts : Nat) : Int) = _
  have e1 := Int.ediv_mul_cancel (gs_mem (ts := ts) (g := b) (k := k))
  have e2 := Nat.div_mul_cancel (gs_self (ts := ts) (g := b))
  have := Rat.divInt_mul_right (n := ts.getD k 0 / (gs b ts : Nat)) (d := ((b / gs b ts : Nat) : Int)) (a := ((gs b ts : Nat) : Int)) (by omega)
  rw [← this, e1, ← Int.natCast_mul, e2]
/-- the length without noughts at the end -/
def tl : List Int → Nat
  | [] => 0
  | t :: ts => if tl ts = 0 then (if t = 0 then 0 else 1) else tl ts + 1
theorem tl_le : ∀ {ts : List Int}, tl ts ≤ ts.length
  | [] => by simp [tl]
  | t :: ts => by
    have := tl_le (ts := ts)
    rw [tl]; simp only [List.length_cons]
    split
    · split <;> omega
    · omega
theorem tl_get : ∀ {ts : List Int} {k : Nat}, (ts.take (tl ts)).getD k 0 = ts.getD k 0
  | [], k => by simp
  | t :: ts, 0 => by
    rw [tl]
    split
    · split
      · rename_i h; simp [h]
      · simp
    · simp
  | t :: ts, k + 1 => by
    have := tl_get (ts := ts) (k := k)
    rw [tl]
    split
    · rename_i h
      rw [h] at this
      split
      · simpa using this
      · simpa using this
    · simpa using this
theorem tl_tr : ∀ {ts : List Int}, Tr (ts.take (tl ts))
  | [] => trivial
  | t :: ts => by
    have := tl_tr (ts := ts)
    rw [tl]
    split
    · split
      · exact trivial
      · rename_i h; simpa [Tr] using h
    · rename_i h
      rw [List.take_succ_cons]
      cases e : ts.take (tl ts) with
      | nil =>
        have l := tl_le (ts := ts)
        have c : (ts.take (tl ts)).length = tl ts := by rw [List.length_take]; omega
        rw [e] at c
        exact absurd c.symm h
      | cons u us => rw [e] at this; exact this
def mk (ts : List Int) (b : Nat) : Pol := if h : 0 < b then mkT (ts.take (tl ts)) tl_tr b h else ⟨[], 1, by decide, trivial, rfl⟩
theorem co_mk {ts : List Int} {b : Nat} (h : 0 < b) (k : Nat) : (mk ts b).co k = Rat.divInt (ts.getD k 0) b := by
  unfold mk
  rw [dif_pos h, co_mkT, tl_get]
/-! worked out -/
def evZ : List Int → Rat → Rat
  | [], _ => 0
  | t :: ts, x => t + x * evZ ts x
def evI : List Int → Int → Int
  | [], _ => 0
  | t :: ts, x => t + x * evI ts x
theorem evI_cast {n : Int} : ∀ {ts : List Int}, evZ ts (n : Rat) = ((evI ts n : Int) : Rat)
  | [] => by simp [evZ, evI]
  | t :: ts => by rw [evZ, evI, evI_cast, Rat.intCast_add, Rat.intCast_mul]
theorem evI_get : ∀ {ts us : List Int}, (∀ n : Int, 0 < n → evI ts n = evI us n) → ∀ k, ts.getD k 0 = us.getD k 0 := by
  have dvd : ∀ {t : Int} {f : Int → Int}, (∀ n : Int, 0 < n → t + n * f n = 0) → t = 0 ∧ ∀ n : Int, 0 < n → f n = 0 := by
    intro t f h
    have h0 : t = 0 := by
      have h1 := h (t.natAbs + 1) (by omega)
      have : ((t.natAbs : Int) + 1) ∣ t := ⟨-f (t.natAbs + 1), by rw [Int.mul_neg]; omega⟩
      have := Int.natAbs_dvd_natAbs.mpr this
      by_cases e : t = 0
      · exact e
      · have := Nat.le_of_dvd (by omega) this
        omega
    refine ⟨h0, fun n hn => ?_⟩
    have h1 := h n hn
    rw [h0, Int.zero_add] at h1
    rcases Int.mul_eq_zero.mp h1 with e | e
    · omega
    · exact e
  have zero : ∀ {ts : List Int}, (∀ n : Int, 0 < n → evI ts n = 0) → ∀ k, ts.getD k 0 = 0 := by
    intro ts
    induction ts with
    | nil => intro _ k; simp
    | cons t ts ih =>
      intro h k
      obtain ⟨a, b⟩ := dvd h
      cases k with
      | zero => simpa using a
      | succ k => simpa using ih b k
  intro ts
  induction ts with
  | nil =>
    intro us h k
    rw [zero (ts := us) fun n hn => (h n hn).symm]; simp
  | cons t ts ih =>
    intro us h k
    cases us with
    | nil => rw [zero h]; simp
    | cons u us =>
      have h' : ∀ n : Int, 0 < n → (t - u) + n * (evI ts n - evI us n) = 0 := fun n hn => by
        have := h n hn
        rw [evI, evI] at this
        rw [Int.mul_sub]; omega
      obtain ⟨a, b⟩ := dvd h'
      cases k with
      | zero => simp; omega
      | succ k => simpa using ih (fun n hn => by have := b n hn; omega) k
theorem evZ_get {x : Rat} : ∀ {ts us : List Int}, (∀ k, ts.getD k 0 = us.getD k 0) → evZ ts x = evZ us x := by
  have zero : ∀ {ts : List Int}, (∀ k, ts.getD k 0 = 0) → evZ ts x = 0 := by
    intro ts
    induction ts with
    | nil => intro _; rfl
    | cons t ts ih =>
      intro h
      have h0 := h 0
      rw [evZ, ih fun k => by simpa using h (k + 1)]
      simp at h0
      rw [h0]; grind
  intro ts
  induction ts with
  | nil => intro us h; rw [zero (ts := us) fun k => by rw [← h k]; simp]; rfl
  | cons t ts ih =>
    intro us h
    cases us with
    | nil => rw [zero (ts := t :: ts) fun k => by rw [h k]; simp]; rfl
    | cons u us =>
      have h0 := h 0
      simp at h0
      rw [evZ, evZ, h0, ih fun k => by simpa using h (k + 1)]
theorem evZ_mul {c : Int} {x : Rat} : ∀ {ts : List Int}, evZ (ts.map fun t => c * t) x = c * evZ ts x
  | [] => by simp [evZ]
  | t :: ts => by rw [List.map_cons, evZ, evZ, evZ_mul, Rat.intCast_mul]; grind
def Pol.ev (p : Pol) (x : Rat) : Rat := evZ p.ts x / (p.b : Int)
theorem Pol.ext_ev {p q : Pol} (h : ∀ x, p.ev x = q.ev x) : p = q := by
  have hp := p.hb
  have hq := q.hb
  have hp' : (((p.b : Int)) : Rat) ≠ 0 := by
    intro e; have := Rat.intCast_eq_zero_iff.mp e; omega
  have hq' : (((q.b : Int)) : Rat) ≠ 0 := by
    intro e; have := Rat.intCast_eq_zero_iff.mp e; omega
  refine Pol.ext_co fun k => ?_
  have key : ∀ n : Int, 0 < n → evI (p.ts.map fun t => (q.b : Int) * t) n = evI (q.ts.map fun t => (p.b : Int) * t) n := fun n _ => by
    refine Rat.intCast_inj.mp ?_
    rw [← evI_cast, ← evI_cast, evZ_mul, evZ_mul]
    have := h n
    unfold Pol.ev at this
    grind
  have := evI_get key k
  rw [getD_map (by simp), getD_map (by simp)] at this
  unfold Pol.co
  refine (Rat.divInt_eq_divInt_iff (by omega) (by omega)).mpr ?_
  rw [Int.mul_comm, this, Int.mul_comm]
theorem ev_mk {ts : List Int} {b : Nat} (h : 0 < b) (x : Rat) : (mk ts b).ev x = evZ ts x / (b : Int) := by
  have hm := (mk ts b).hb
  have h1 : (((b : Int)) : Rat) ≠ 0 := by
    intro e; have := Rat.intCast_eq_zero_iff.mp e; omega
  have h2 : ((((mk ts b).b : Int)) : Rat) ≠ 0 := by
    intro e; have := Rat.intCast_eq_zero_iff.mp e; omega
  have key : ∀ k, ((mk ts b).ts.map fun t => (b : Int) * t).getD k 0 = (ts.map fun t => ((mk ts b).b : Int) * t).getD k 0 := fun k => by
    rw [getD_map (by simp), getD_map (by simp)]
    have := co_mk (ts := ts) h k
    unfold Pol.co at this
    have := (Rat.divInt_eq_divInt_iff (by omega) (by omega)).mp this
    rw [Int.mul_comm, this, Int.mul_comm]
  have := evZ_get (x := x) key
  rw [evZ_mul, evZ_mul] at this
  unfold Pol.ev
  grind
end NW

namespace NW
open PySem PySem.Spec PyProof.Rows L2
def polyD (p : Pol) : PyData := .tuple [.tuple (p.ts.map .int), .int p.b]
theorem sIx_m {n d m : Nat} (h : m ≤ n) : HT.sIx n d (some (m : Int)) = m := by rw [HT.sIx_nat]; omega
theorem cutD_take {xs : List PyData} {m : Nat} (h : m ≤ xs.length) : cutD xs none (some (m : Int)) = xs.take m := by
  unfold cutD
  rw [sIx_m h, HT.sIx_none]; simp
/-- a list or a tuple of these -/
def SeqD (S : PyData) (xs : List PyData) : Prop := S = .list xs ∨ S = .tuple xs
section
variable {S : PyData} {xs : List PyData} {st : Sto} {Q : U → Sto → Prop}
theorem SeqD.len (h : SeqD S xs) : (cLen [.d S] st).To Q ↔ Q (.d (.int xs.length)) st := by rcases h with rfl | rfl <;> exact Iff.rfl
theorem SeqD.ix (h : SeqD S xs) {i : Int} : (fIx (.d S) (.d (.int i)) st).To Q ↔ ∃ x, ((idxN xs.length i).bind fun j => xs[j]?) = some x ∧ Q (.d x) st := by rcases h with rfl | rfl <;> simp
theorem SeqD.ixn (h : SeqD S xs) {i : Nat} (hi : i < xs.length) : (fIx (.d S) (.d (.int i)) st).To Q ↔ Q (.d xs[i]) st := by
  rw [h.ix, idxN_nat hi]
  simp [hi]
theorem SeqD.sl (h : SeqD S xs) {a b : Option Int} : ∃ S', SeqD S' (cutD xs a b) ∧ ∀ (st : Sto) (Q : U → Sto → Prop), (fSl (.d S) a b st).To Q ↔ Q (.d S') st := by
  rcases h with rfl | rfl
  · exact ⟨_, .inl rfl, fun _ _ => Iff.rfl⟩
  · exact ⟨_, .inr rfl, fun _ _ => Iff.rfl⟩
theorem SeqD.src (h : SeqD S xs) : srcOf st (.d S) = some (xs, []) := by rcases h with rfl | rfl <;> rfl
end
@[simp] theorem to_tupL {st : Sto} {Q : U → Sto → Prop} {xs : List PyData} : (cTupOf [.d (.list xs)] st).To Q ↔ Q (.d (.tuple xs)) st := Iff.rfl
@[simp] theorem to_tupT {st : Sto} {Q : U → Sto → Prop} {xs : List PyData} : (cTupOf [.d (.tuple xs)] st).To Q ↔ Q (.d (.tuple xs)) st := Iff.rfl
theorem divC_nat {t : Int} {g : Nat} (h : 0 < g) (hn : g < 2 ^ 8999) : divC t g = true := divC_of (b := 8999) (by omega) (by omega) (by omega) (by omega)
theorem over_to {S : PyData} {ts : List Int} {b : Nat} {P : PyData → Prop} (hS : SeqD S (ts.map .int)) (hb : 0 < b) (hn : b < 2 ^ 8999) (hl : ts.length ≤ 16777216) (h : P (polyD (mk ts b))) : (m_over [S, .int b]).To P := by
  unfold m_over
  rw [pure_to]
  unfold b_over
  simp [startL, hS.len]
  refine while_to (I := fun n l s => s = ⟨none, []⟩ ∧ l = [some (.d S), some (.d (.int b)), some (.d (.int n)), none, none] ∧ n ≤ ts.length ∧ ∀ k, n ≤ k → ts.getD k 0 = 0) ?_ ts.length _ _ ⟨rfl, rfl, Nat.le_refl _, fun k hk => by simp [List.getD_eq_getElem?_getD, List.getElem?_eq_none hk]⟩
  rintro n l s ⟨rfl, rfl, h1, h2⟩
  have post : (n ≠ 0 → ts.getD (n - 1) 0 ≠ 0) → (sSeq (sAsg 3 (eVar 1))
      (sSeq (sFor (mAny (eSlAny (eVar 0) oNone (oSome (eVar 2)))) (gNameM 4) (sAsg 3 (eCallP 2 m_common_part (aCons (eVar 3) (aCons (eVar 4) aNil)))))
      (sRet (eTup (aCons (eCB cTupOf (aCons (eFrz (lLc (mAny (eSlAny (eVar 0) oNone (oSome (eVar 2)))) [4] (gNameM 4) bYes (eOp fDiv (eVar 4) (eVar 3)))) aNil)) (aCons (eOp fDiv (eVar 1) (eVar 3)) aNil))))) [some (.d S), some (.d (.int b)), some (.d (.int n)), none, none] ⟨none, []⟩).To (fun _ _ => P .none) (retP P) := by
    intro hz
    obtain ⟨S', hS', hsl⟩ := hS.sl (a := none) (b := some (n : Int))
    rw [cutD_take (by simpa using h1), ← List.map_take] at hS'
    have tr : Tr (ts.take n) := tr_of fun hne => by
      have hn0 : n ≠ 0 := fun e => by subst e; simp at hne
      have := hz hn0
      rw [List.length_take, Nat.min_eq_left h1]
      rw [List.getD_eq_getElem?_getD, List.getElem?_take_of_lt (by omega), ← List.getD_eq_getElem?_getD]
      exact this
    have eq : mkT (ts.take n) tr b hb = mk ts b := Pol.ext_co fun k => by
      rw [co_mkT, co_mk hb]
      congr 1
      by_cases hk : k < n
      · rw [List.getD_eq_getElem?_getD, List.getElem?_take_of_lt hk, ← List.getD_eq_getElem?_getD]
      · rw [h2 k (by omega), List.getD_eq_getElem?_getD, List.getElem?_eq_none (by simp; omega)]; rfl
    have hly : (ts.take n).length ≤ 16777216 := by simp; omega
    clear hz h2
    generalize ts.take n = ys at hS' tr eq hly
    have hgp := gs_pos (ts := ys) hb
    have hgl : gs b ys ≤ b := Nat.le_of_dvd hb gs_self
    simp [hsl, hS'.src]
    refine ⟨_, _, ⟨rfl, rfl⟩, ?_⟩
    refine for_to (I := fun zs l s => s = ⟨none, []⟩ ∧ ∃ (as bs : List Int) (v : Option U), ys = as ++ bs ∧ zs = bs.map .int ∧ l = [some (.d S), some (.d (.int b)), some (.d (.int n)), some (.d (.int (gs b as))), v]) (fun _ _ _ _ => chk_nil) ?_ ?_ _ _ _ ⟨rfl, [], ys, none, rfl, rfl, rfl⟩
    · rintro x zs l s ⟨rfl, as, bs, v, e1, e2, rfl⟩
      cases bs with
      | nil => cases e2
      | cons c bs =>
        cases e2
        simp
        refine common_part_to ?_
        refine ⟨as ++ [c], bs, by rw [e1]; simp, rfl, ?_⟩
        have : ∀ (as : List Int) (g : Nat), gs g (as ++ [c]) = Int.gcd (gs g as) c := by
          intro as
          induction as with
          | nil => intro g; rfl
          | cons a as ih => intro g; rw [List.cons_append, gs, gs, ih]
        rw [this]
    · rintro l s ⟨rfl, as, bs, v, e1, e2, rfl⟩
      have : bs = [] := by cases bs with | nil => rfl | cons c bs => cases e2
      subst this
      rw [List.append_nil] at e1
      subst e1
      have dv : ∀ t : Int, divC t (gs b ys) = true := fun t => divC_nat hgp (Nat.lt_of_le_of_lt hgl hn)
      simp [hsl, hS'.src, dv]
      refine ⟨_, _, ⟨rfl, rfl⟩, by simpa using hly, ?_⟩
      refine lc_map (g := fun x => match x with | .int t => .int (t.fdiv (gs b ys)) | _ => .none) ?_ ?_
      · intro x hx
        obtain ⟨t, ht, rfl⟩ := List.mem_map.mp hx
        simp [wipeL, dv]
      · simp
        have e : polyD (mk ts b) = .tuple [.tuple (List.map ((fun x => match x with | PyData.int t => PyData.int (t.fdiv (gs b ys)) | _ => PyData.none) ∘ PyData.int) ys), .int ((b : Int).fdiv (gs b ys))] := by
          rw [← eq]
          unfold polyD mkT
          simp only [List.map_map]
          congr 3
          · refine List.map_congr_left fun t ht => ?_
            show PyData.int (t / (gs b ys : Nat)) = PyData.int (t.fdiv (gs b ys : Nat))
            rw [Int.fdiv_eq_ediv_of_nonneg _ (by omega)]
          · show PyData.int ((b / gs b ys : Nat) : Int) = PyData.int ((b : Int).fdiv (gs b ys : Nat))
            rw [Int.fdiv_eq_ediv_of_nonneg _ (by omega), Int.natCast_ediv]
        rw [e] at h
        exact h
  have gi : ∀ k (hk : k < ts.length), ts.getD k 0 = ts[k] := fun k hk => by simp [List.getD_eq_getElem?_getD, hk]
  by_cases hn0 : n = 0
  · subst hn0
    simp at post ⊢
    exact post
  · have hlt : n - 1 < ts.length := by omega
    have e1 : ((n : Int) - 1) = ((n - 1 : Nat) : Int) := by omega
    have e2 : (0 : Int) < n := by omega
    by_cases hz : ts.getD (n - 1) 0 = 0
    · have hz' := hz
      rw [gi _ hlt] at hz'
      simp [-List.getD_eq_getElem?_getD, hn0, e1, e2, hS.ixn, hlt, hz']
      clear hn
      refine ⟨by omega, n - 1, by omega, rfl, by omega, fun k hk => ?_⟩
      by_cases e : k = n - 1
      · subst e; exact hz
      · exact h2 k (by omega)
    · have hz' := hz
      rw [gi _ hlt] at hz'
      simp at post
      simp [hn0, e1, e2, hS.ixn, hlt, hz']
      exact ⟨by omega, post fun _ => by simpa using hz⟩
end NW

namespace NW
open PySem PySem.Spec PyProof.Rows L2
/-! ### poly, fraction_at, degree, lead -/
def lcms (b : Nat) : List Rat → Nat
  | [] => b
  | q :: qs => lcms (Nat.lcm b q.den) qs
theorem lcms_dvd : ∀ {qs : List Rat} {b : Nat}, b ∣ lcms b qs ∧ ∀ q, q ∈ qs → q.den ∣ lcms b qs
  | [], b => ⟨Nat.dvd_refl _, fun q h => by cases h⟩
  | q :: qs, b => by
    obtain ⟨h1, h2⟩ := lcms_dvd (qs := qs) (b := Nat.lcm b q.den)
    rw [lcms]
    refine ⟨Nat.dvd_trans (Nat.dvd_lcm_left _ _) h1, fun r hr => ?_⟩
    rcases List.mem_cons.mp hr with rfl | hr
    · exact Nat.dvd_trans (Nat.dvd_lcm_right _ _) h1
    · exact h2 r hr
theorem lcms_pos : ∀ {qs : List Rat} {b : Nat}, 0 < b → 0 < lcms b qs
  | [], b, h => h
  | q :: qs, b, h => by rw [lcms]; exact lcms_pos (Nat.lcm_pos h q.den_pos)
def ofC (qs : List Rat) : Pol := mk (qs.map fun q => q.num * ((lcms 1 qs / q.den : Nat) : Int)) (lcms 1 qs)
theorem co_ofC {qs : List Rat} (k : Nat) : (ofC qs).co k = qs.getD k 0 := by
  unfold ofC
  have hb : 0 < lcms 1 qs := lcms_pos (by decide)
  rw [co_mk hb, List.getD_eq_getElem?_getD, List.getD_eq_getElem?_getD, List.getElem?_map]
  cases e : qs[k]? with
  | none => simp
  | some q =>
    have hd := (lcms_dvd (b := 1)).2 q (List.mem_of_getElem? e)
    simp only [Option.map_some, Option.getD_some]
    have e2 := Nat.div_mul_cancel hd
    have hn : ((lcms 1 qs / q.den : Nat) : Int) ≠ 0 := by
      intro h0
      have : lcms 1 qs / q.den = 0 := by omega
      rw [this] at e2; omega
    have := Rat.divInt_mul_right (n := q.num) (d := (q.den : Int)) (a := ((lcms 1 qs / q.den : Nat) : Int)) hn
    rw [Rat.num_divInt_den, ← Int.natCast_mul, Nat.mul_comm q.den, e2] at this
    exact this
theorem lcm_eq (b d : Nat) (h : 0 < b) : ((b : Int) * d).fdiv (Nat.gcd b d : Nat) = ((Nat.lcm b d : Nat) : Int) := by
  rw [Int.fdiv_eq_ediv_of_nonneg _ (by omega), Nat.lcm, Int.natCast_ediv, Int.natCast_mul]
theorem lcm_lt {a b m n : Nat} (h1 : a < 2 ^ m) (h2 : b < 2 ^ n) : Nat.lcm a b < 2 ^ (m + n) := by
  refine Nat.lt_of_le_of_lt (Nat.div_le_self _ _) ?_
  rw [Nat.pow_add]
  exact Nat.mul_lt_mul'' h1 h2
theorem poly_to {S : PyData} {qs : List Rat} {n : Nat} {P : PyData → Prop} (hS : SeqD S (qs.map fracD)) (hq : ∀ q, q ∈ qs → FB n q) (hn : qs.length * n ≤ 8000) (h0 : 0 < n) (hn' : n ≤ 8000) (hl : qs.length ≤ 16777216) (h : P (polyD (ofC qs))) : (m_poly [S]).To P := by
  unfold m_poly
  rw [pure_to]
  unfold b_poly
  simp [startL, hS.src]
  refine ⟨_, _, ⟨rfl, rfl⟩, ?_⟩
  refine for_to (I := fun zs l s => s = ⟨none, []⟩ ∧ ∃ (as bs : List Rat) (v w : Option U) (c : Nat), qs = as ++ bs ∧ zs = bs.map fracD ∧ l = [some (.d S), some (.d (.int c)), v, w] ∧ lcms c bs = lcms 1 qs ∧ 0 < c ∧ c < 2 ^ (as.length * n + 1)) (fun _ _ _ _ => chk_nil) ?_ ?_ _ _ _ ⟨rfl, [], qs, none, none, 1, rfl, rfl, rfl, rfl, by decide, by simp⟩
  · rintro x zs l s ⟨rfl, as, bs, v, w, c, e1, e2, rfl, e3, e4, e5⟩
    cases bs with
    | nil => cases e2
    | cons q bs =>
      cases e2
      have fq := hq q (by rw [e1]; simp)
      have hlen : (as.length + 1) * n ≤ 8000 := Nat.le_trans (Nat.mul_le_mul_right n (by rw [e1]; simp)) hn
      rw [Nat.add_mul, Nat.one_mul] at hlen
      have m1 : mulC c q.den = true := mulC_of (a := as.length * n + 1) (b := n) (by simpa using e5) (by simpa using fq.2) (by omega) h0 (by omega)
      have hg : 0 < Nat.gcd c q.den := Nat.gcd_pos_of_pos_left _ e4
      have hg2 : Nat.gcd c q.den < 2 ^ 8999 := Nat.lt_of_le_of_lt (Nat.le_of_dvd e4 (Nat.gcd_dvd_left _ _)) (Nat.lt_of_lt_of_le e5 (Nat.pow_le_pow_right (by omega) (by omega)))
      simp [fracD, m1]
      refine common_part_to ?_
      simp [divC_nat hg hg2, lcm_eq c q.den e4]
      refine ⟨as ++ [q], bs, by rw [e1]; simp, rfl, _, _, _, ⟨rfl, rfl, rfl⟩, e3, Nat.lcm_pos e4 q.den_pos, ?_⟩
      have := lcm_lt e5 fq.2
      rw [List.length_append, Nat.add_mul]
      refine Nat.lt_of_lt_of_le this (Nat.pow_le_pow_right (by omega) ?_)
      simp; omega
  · rintro l s ⟨rfl, as, bs, v, w, c, e1, e2, rfl, e3, e4, e5⟩
    have : bs = [] := by cases bs with | nil => rfl | cons c bs => cases e2
    subst this
    have e3' : c = lcms 1 qs := e3
    subst e3'
    rw [List.append_nil] at e1
    subst e1
    have hB : lcms 1 qs < 2 ^ 8999 := Nat.lt_of_lt_of_le e5 (Nat.pow_le_pow_right (by omega) (by omega))
    simp [hS.src]
    refine ⟨_, _, ⟨rfl, rfl⟩, by simpa using hl, ?_⟩
    refine lc_mapA (g := fun q => .int (q.num * ((lcms 1 qs / q.den : Nat) : Int))) chk_nil ?_ ?_
    · intro q hq'
      have fq := hq q hq'
      have hd : 0 < q.den := q.den_pos
      have hq1 : q.den < 2 ^ 8999 := Nat.lt_of_lt_of_le fq.2 (Nat.pow_le_pow_right (by omega) (by omega))
      have hl2 : lcms 1 qs / q.den < 2 ^ 8999 := Nat.lt_of_le_of_lt (Nat.div_le_self _ _) hB
      have e : ((lcms 1 qs : Nat) : Int).fdiv (q.den : Int) = ((lcms 1 qs / q.den : Nat) : Int) := by
        rw [Int.fdiv_eq_ediv_of_nonneg _ (by omega), Int.natCast_ediv]
      have m1 : mulC q.num ((lcms 1 qs / q.den : Nat) : Int) = true := mulC_of (a := n) (b := 8999) fq.1 (by rw [Int.natAbs_natCast]; exact hl2) h0 (by omega) (by omega)
      rw [Int.natCast_ediv] at m1 e
      simp [wipeL, fracD, divC_nat hd hq1, e, m1]
    · unfold ofC at h
      refine over_to (.inl ?_) (lcms_pos (by decide)) hB ?_ h
      · rw [List.map_map]; rfl
      · simpa using hl
theorem fraction_at_to {p : Pol} {k : Nat} {P : PyData → Prop} (hb : p.b < 2 ^ 8999) (h : P (fracD (p.co k))) : (m_fraction_at [polyD p, .int k]).To P := by
  unfold m_fraction_at
  rw [pure_to]
  unfold b_fraction_at
  have hp := p.hb
  by_cases hk : p.ts.length ≤ k
  · have e : p.co k = 0 := by
      unfold Pol.co
      rw [List.getD_eq_getElem?_getD, List.getElem?_eq_none hk]; simp
    rw [e] at h
    simp [startL, polyD, hk]
    exact h
  · have e : p.ts.getD k 0 = p.ts[k]'(by omega) := by simp [List.getD_eq_getElem?_getD, List.getElem?_eq_getElem (show k < p.ts.length by omega)]
    have hk' : k < p.ts.length := by omega
    unfold Pol.co at h
    rw [e] at h
    simp [startL, polyD, hk, hk', idxN_nat (show k < p.ts.length by omega)]
    exact fraction_to (by omega) (by simpa using hb) h
theorem degree_to {p : Pol} {P : PyData → Prop} (h : P (.int ((p.ts.length : Int) - 1))) : (m_degree [polyD p]).To P := by
  unfold m_degree
  rw [pure_to]
  unfold b_degree
  simp [startL, polyD]
  exact h
theorem lead_to {p : Pol} {P : PyData → Prop} (hb : p.b < 2 ^ 8999) (h : P (fracD (p.co (p.ts.length - 1)))) : (m_lead [polyD p]).To P := by
  unfold m_lead
  rw [pure_to]
  unfold b_lead
  by_cases hk : p.ts.length = 0
  · have e : p.co (p.ts.length - 1) = 0 := by
      unfold Pol.co
      rw [List.getD_eq_getElem?_getD, List.getElem?_eq_none (by omega)]; simp
    rw [e] at h
    have : p.ts = [] := List.length_eq_zero_iff.mp hk
    simp [startL, polyD, this]
    exact h
  · have : p.ts ≠ [] := fun e => hk (by rw [e]; rfl)
    have e : ((p.ts.length : Int) - 1) = ((p.ts.length - 1 : Nat) : Int) := by omega
    simp [startL, polyD, this]
    refine degree_to (p := p) ?_
    rw [e]
    exact fraction_at_to hb h
/-- how long a polynomial's row of whole numbers is -/
theorem len_of {p : Pol} {m : Nat} (h1 : ∀ k, m ≤ k → p.co k = 0) (h2 : m ≠ 0 → p.co (m - 1) ≠ 0) : p.ts.length = m := by
  have hp := p.hb
  have z : ∀ k, p.co k = 0 ↔ p.ts.getD k 0 = 0 := fun k => by
    unfold Pol.co
    constructor
    · intro h
      have e : Rat.divInt (p.ts.getD k 0) p.b = Rat.divInt 0 1 := by rw [h, Rat.zero_divInt]
      have := (Rat.divInt_eq_divInt_iff (by omega) (by omega)).mp e
      omega
    · intro h; rw [h]; simp
  rcases Nat.lt_trichotomy p.ts.length m with h | h | h
  · exfalso
    refine h2 (by omega) ((z _).mpr ?_)
    rw [List.getD_eq_getElem?_getD, List.getElem?_eq_none (by omega)]; rfl
  · exact h
  · exfalso
    have hn : p.ts ≠ [] := fun e => by rw [e] at h; simp at h
    exact tr_get p.ht hn ((z _).mp (h1 _ (by omega)))
end NW

namespace NW
open PySem PySem.Spec PyProof.Rows L2
/-! ### sums and products -/
theorem mk_congr {ts us : List Int} {b : Nat} (hb : 0 < b) (h : ∀ k, ts.getD k 0 = us.getD k 0) : mk ts b = mk us b := Pol.ext_co fun k => by rw [co_mk hb, co_mk hb, h k]
theorem mk_ext {ts us : List Int} {b c : Nat} (hb : 0 < b) (hc : 0 < c) (h : ∀ x, evZ ts x / (b : Int) = evZ us x / (c : Int)) : mk ts b = mk us c := Pol.ext_ev fun x => by rw [ev_mk hb, ev_mk hc, h x]
/-- worked out by the coefficients -/
def evC : Nat → (Nat → Rat) → Rat → Rat
  | 0, _, _ => 0
  | n + 1, f, x => f 0 + x * evC n (fun k => f (k + 1)) x
theorem evC_add {x : Rat} : ∀ {n : Nat} {f g : Nat → Rat}, evC n (fun k => f k + g k) x = evC n f x + evC n g x
  | 0, _, _ => by simp [evC]; grind
  | n + 1, f, g => by rw [evC, evC, evC, evC_add]; grind
theorem evC_mul {x c : Rat} : ∀ {n : Nat} {f : Nat → Rat}, evC n (fun k => c * f k) x = c * evC n f x
  | 0, _ => by simp [evC]
  | n + 1, f => by rw [evC, evC, evC_mul]; grind
theorem evC_evZ {x : Rat} : ∀ {ts : List Int} {n : Nat}, ts.length ≤ n → evC n (fun k => ((ts.getD k 0 : Int) : Rat)) x = evZ ts x
  | [], n, _ => by
    induction n with
    | zero => rfl
    | succ n ih =>
      have := ih (by simp)
      simp [evZ] at this
      rw [evC]
      simp [this, evZ]; grind
  | t :: ts, 0, h => by simp at h
  | t :: ts, n + 1, h => by
    rw [evC, evZ]
    have := evC_evZ (x := x) (ts := ts) (n := n) (by simpa using h)
    simp only [List.getD_cons_zero, List.getD_cons_succ]
    rw [this]
theorem divInt_div (a : Int) (b : Int) : Rat.divInt a b = (a : Rat) / (b : Rat) := by
  rw [Rat.divInt_eq_div]
theorem Pol.bne (p : Pol) : ((p.b : Int) : Rat) ≠ 0 := by
  have := p.hb
  intro e; have := Rat.intCast_eq_zero_iff.mp e; omega
theorem ev_co {p : Pol} {n : Nat} {x : Rat} (h : p.ts.length ≤ n) : p.ev x = evC n p.co x := by
  have e : p.co = fun k => (1 / ((p.b : Int) : Rat)) * ((p.ts.getD k 0 : Int) : Rat) := funext fun k => by
    unfold Pol.co
    rw [divInt_div]; grind
  rw [e, evC_mul, evC_evZ h]
  unfold Pol.ev
  grind
theorem evZ_set {x : Rat} {d : Int} : ∀ {ts : List Int} {k : Nat} {t : Int}, ts[k]? = some t → evZ (ts.set k (t + d)) x = evZ ts x + d * x ^ k
  | [], _, _, h => by simp at h
  | a :: ts, 0, t, h => by
    simp at h; subst h
    rw [List.set_cons_zero, evZ, evZ, Rat.intCast_add]; grind
  | a :: ts, k + 1, t, h => by
    have := evZ_set (x := x) (d := d) (ts := ts) (k := k) (t := t) (by simpa using h)
    rw [List.set_cons_succ, evZ, evZ, this]
    grind
theorem evZ_app {x : Rat} : ∀ {ts us : List Int}, evZ (ts ++ us) x = evZ ts x + x ^ ts.length * evZ us x
  | [], us => by simp [evZ]; grind
  | t :: ts, us => by
    rw [List.cons_append, evZ, evZ, evZ_app, List.length_cons]; grind
theorem evZ_zero {x : Rat} : ∀ {n : Nat}, evZ (List.replicate n 0) x = 0
  | 0 => rfl
  | n + 1 => by rw [List.replicate_succ, evZ, evZ_zero]; simp; grind
end NW

namespace NW
open PySem PySem.Spec PyProof.Rows L2
section
variable {l : Loc} {st : Sto} {P : List PyData → Sto → Prop}
@[simp] theorem to_lOp {f : U → U → Sto → Res (List PyData)} {a b : ME} : (lOp f a b l st).To P ↔ (a l st).To fun x s => (b l s).To fun y s => (f x y s).To P := by unfold lOp; simp
@[simp] theorem to_rep1 {x : PyData} {k : Int} : (fRep (.d (.list [x])) (.d (.int k)) st).To P ↔ (-(2 ^ 63) ≤ k ∧ k < 2 ^ 63 ∧ k.toNat ≤ 16777216) ∧ P (List.replicate k.toNat x) st := by
  have e : (List.replicate k.toNat [x]).flatten = List.replicate k.toNat x := by
    generalize k.toNat = n
    induction n with
    | zero => rfl
    | succ n ih => rw [List.replicate_succ, List.flatten_cons, ih, List.replicate_succ]; rfl
  show (if (decide (-(2 ^ 63) ≤ k ∧ k < 2 ^ 63) && lenOk ([x].length * k.toNat)) = true then Res.ok (List.replicate k.toNat [x]).flatten st else .no).To P ↔ _
  rw [to_ite, e]
  simp only [Bool.and_eq_true, decide_eq_true_eq, lenOk_small, List.length_singleton, Nat.one_mul]
  split
  · rename_i h; exact ⟨fun z => ⟨⟨h.1.1, h.1.2, h.2⟩, z⟩, fun z => z.2⟩
  · rename_i h; exact ⟨fun z => z.elim, fun z => (h ⟨⟨z.1.1, z.1.2.1⟩, z.1.2.2⟩).elim⟩
end
theorem noLst_poly {p : Pol} : noLst (polyD p) = true := by
  have : ∀ ts : List Int, noLsts (ts.map .int) = true := by
    intro ts
    induction ts with
    | nil => rfl
    | cons t ts ih => rw [List.map_cons, noLsts, ih]; rfl
  simp [polyD, noLst, noLsts, this]
/-- so many bits in a polynomial's numbers -/
def PBt (n m : Nat) (p : Pol) : Prop := p.ts.length ≤ m ∧ p.b < 2 ^ n ∧ ∀ t, t ∈ p.ts → t.natAbs < 2 ^ n
theorem PBt.get {n m : Nat} {p : Pol} (h : PBt n m p) (k : Nat) : (p.ts.getD k 0).natAbs < 2 ^ n := by
  rw [List.getD_eq_getElem?_getD]
  cases e : p.ts[k]? with
  | none => simp [Nat.two_pow_pos]
  | some t => exact h.2.2 t (List.mem_of_getElem? e)
def sumL (p q : Pol) : List Int := (List.range (max p.ts.length q.ts.length)).map fun k => p.ts.getD k 0 * q.b + q.ts.getD k 0 * p.b
instance : Add Pol := ⟨fun p q => mk (sumL p q) (p.b * q.b)⟩
theorem sumL_get {p q : Pol} {k : Nat} : (sumL p q).getD k 0 = p.ts.getD k 0 * q.b + q.ts.getD k 0 * p.b := by
  unfold sumL
  rw [List.getD_eq_getElem?_getD, List.getElem?_map]
  by_cases h : k < max p.ts.length q.ts.length
  · rw [List.getElem?_range h]; rfl
  · rw [List.getElem?_eq_none (by simp; omega)]
    rw [List.getD_eq_getElem?_getD, List.getD_eq_getElem?_getD, List.getElem?_eq_none (by omega), List.getElem?_eq_none (by omega)]
    simp
theorem co_add {p q : Pol} {k : Nat} : (p + q).co k = p.co k + q.co k := by
  have hp := p.hb
  have hq := q.hb
  show (mk (sumL p q) (p.b * q.b)).co k = _
  rw [co_mk (Nat.mul_pos hp hq), sumL_get]
  unfold Pol.co
  rw [Rat.divInt_add_divInt _ _ (by omega) (by omega), Int.natCast_mul]
theorem ev_add {p q : Pol} {x : Rat} : (p + q).ev x = p.ev x + q.ev x := by
  have e : (p + q).co = fun k => p.co k + q.co k := funext fun k => co_add
  rw [ev_co (n := max (p + q).ts.length (max p.ts.length q.ts.length)) (by omega), e, evC_add, ← ev_co (by omega), ← ev_co (by omega)]
theorem enumD_ints {ts : List Int} : enumD (ts.map .int) = ts.zipIdx.map fun p => .tuple [.int (p.2 : Nat), .int p.1] := by
  unfold enumD
  rw [List.zipIdx_map, List.map_map]
  rfl
section
variable {st : Sto} {Q : U → Sto → Prop} {p : Pol}
@[simp] theorem to_ixP0 : (fIx (.d (polyD p)) (.d (.int 0)) st).To Q ↔ Q (.d (.tuple (p.ts.map .int))) st := Iff.rfl
@[simp] theorem to_ixP1 : (fIx (.d (polyD p)) (.d (.int 1)) st).To Q ↔ Q (.d (.int p.b)) st := Iff.rfl
end
/-- a loop, by the number of turns -/
theorem for_ix {d : ItD} {t : MT} {b : MS} {N : Loc → Sto → Prop} {R : U → Sto → Prop} (I : Nat → Loc → Sto → Prop) {xs : List PyData} {l : Loc} {st : Sto} (hk : ∀ k l st, I k l st → d.chk st) (start : I 0 l st)
    (step : ∀ k x l st, xs[k]? = some x → I k l st → (t (.d x) l st).To fun l s => (b l s).To (I (k + 1)) R) (fin : ∀ l st, I xs.length l st → N l st) : (forM d t b xs l st).To N R := by
  refine for_to (I := fun ys l s => ∃ k, I k l s ∧ ∃ zs, xs = zs ++ ys ∧ zs.length = k) (fun _ _ _ ⟨k, h, _⟩ => hk k _ _ h) ?_ ?_ xs l st ⟨0, start, [], rfl, rfl⟩
  · rintro x ys l s ⟨k, h, zs, rfl, rfl⟩
    refine (step zs.length x l s (by simp) h).mono ?_
    intro l1 s1 h1
    exact h1.mono (fun l2 s2 h2 => ⟨_, h2, zs ++ [x], by simp, by simp⟩) (fun _ _ z => z)
  · rintro l s ⟨k, h, zs, e, rfl⟩
    rw [List.append_nil] at e
    subst e
    exact fin l s h
theorem enum_int {ts : List Int} {k : Nat} {x : PyData} (h : (enumD (ts.map .int))[k]? = some x) : ∃ t, ts[k]? = some t ∧ x = .tuple [.int (k : Nat), .int t] := by
  obtain ⟨y, h1, rfl⟩ := enumD_get h
  rw [List.getElem?_map] at h1
  cases e : ts[k]? with
  | none => rw [e] at h1; cases h1
  | some t => rw [e] at h1; cases h1; exact ⟨t, rfl, rfl⟩
theorem map_set {L : List Int} {k : Nat} {t : Int} : (L.map PyData.int).set k (.int t) = (L.set k t).map .int := by rw [List.map_set]
theorem set_getD {L : List Int} {k j : Nat} {t : Int} (hk : k < L.length) : (L.set k t).getD j 0 = if j = k then t else L.getD j 0 := by
  rw [List.getD_eq_getElem?_getD, List.getD_eq_getElem?_getD, List.getElem?_set]
  by_cases h : k = j
  · subst h; simp [hk]
  · rw [if_neg h, if_neg (Ne.symm h)]
theorem plusx {p q : Pol} {n n2 m : Nat} {P : PyData → Prop} (hp : PBt n m p) (hq : PBt n2 m q) (hm : m ≤ 1000) (hn : n + n2 ≤ 8999) (hP : P (polyD (p + q))) : (m_plus [polyD p, polyD q]).To P := by
  unfold m_plus
  rw [pure_to]
  unfold b_plus
  have hpl := hp.1
  have hql := hq.1
  simp [startL]
  have eM : (if p.ts.length < q.ts.length then (q.ts.length : Int) else (p.ts.length : Int)) = ((max p.ts.length q.ts.length : Nat) : Int) := by
    split <;> omega
  rw [eM]
  generalize hM : max p.ts.length q.ts.length = M
  have hM1 : p.ts.length ≤ M := by omega
  have hM2 : q.ts.length ≤ M := by omega
  refine ⟨by omega, _, _, ⟨rfl, rfl⟩, ?_⟩
  obtain ⟨I, hI⟩ : ∃ I : Nat → NW.Loc → Sto → Prop, ∀ k l s, I k l s ↔ ∃ (L : List Int) (v w : Option U), l = [some (.d (polyD p)), some (.d (polyD q)), some (.ref 0), v, w] ∧ s = ⟨none, [.lst (L.map .int)]⟩ ∧ L.length = M ∧ ∀ j, L.getD j 0 = if j < k then p.ts.getD j 0 * q.b else 0 := ⟨_, fun _ _ _ => Iff.rfl⟩
  refine for_ix I (fun _ _ _ _ => chk_nil) ((hI _ _ _).mpr ⟨List.replicate M 0, none, none, rfl, ?_, by simp, ?_⟩) ?_ ?_
  · simp
  · intro j
    simp [List.getD_eq_getElem?_getD, List.getElem?_replicate]
    split <;> rfl
  · rintro k x l s hx h
    obtain ⟨L, v, w, rfl, rfl, hL, hg⟩ := (hI _ _ _).mp h
    obtain ⟨t, ht, rfl⟩ := enum_int hx
    have hk : k < p.ts.length := (List.getElem?_eq_some_iff.mp ht).1
    have e1 : p.ts.getD k 0 = t := by rw [List.getD_eq_getElem?_getD, ht]; rfl
    have mc : mulC t q.b = true := mx (by rw [← e1]; exact hp.get k) (by simpa using hq.2.1) hn
    have hkM : k < L.length := by omega
    simp [mc, idxN_nat hkM]
    refine (hI _ _ _).mpr ⟨L.set k (t * q.b), _, _, rfl, by rw [map_set], by simpa using hL, fun j => ?_⟩
    rw [set_getD hkM, hg j]
    by_cases hj : j = k
    · subst hj; rw [if_pos rfl, if_pos (by omega), e1]
    · rw [if_neg hj]
      by_cases h1 : j < k
      · rw [if_pos h1, if_pos (by omega)]
      · rw [if_neg h1, if_neg (by omega)]
  · intro l s h
    obtain ⟨L, v, w, rfl, rfl, hL, hg⟩ := (hI _ _ _).mp h
    have hg' : ∀ j, L.getD j 0 = p.ts.getD j 0 * q.b := fun j => by
      rw [hg j]
      split
      · rfl
      · rename_i hj
        rw [List.getD_eq_getElem?_getD, List.getElem?_eq_none (by simpa using hj)]; simp
    clear h hg
    simp
    obtain ⟨J, hJ⟩ : ∃ J : Nat → NW.Loc → Sto → Prop, ∀ k l s, J k l s ↔ ∃ (L : List Int) (v w : Option U), l = [some (.d (polyD p)), some (.d (polyD q)), some (.ref 0), v, w] ∧ s = ⟨none, [.lst (L.map .int)]⟩ ∧ L.length = M ∧ ∀ j, L.getD j 0 = p.ts.getD j 0 * q.b + if j < k then q.ts.getD j 0 * p.b else 0 := ⟨_, fun _ _ _ => Iff.rfl⟩
    refine ⟨_, _, ⟨rfl, rfl⟩, ?_⟩
    refine for_ix J (fun _ _ _ _ => chk_nil) ((hJ _ _ _).mpr ⟨L, v, w, rfl, rfl, hL, fun j => by rw [hg' j, if_neg (by omega)]; omega⟩) ?_ ?_
    · rintro k x l s hx h
      obtain ⟨L, v, w, rfl, rfl, hL, hg⟩ := (hJ _ _ _).mp h
      obtain ⟨t, ht, rfl⟩ := enum_int hx
      have hk : k < q.ts.length := (List.getElem?_eq_some_iff.mp ht).1
      have e1 : q.ts.getD k 0 = t := by rw [List.getD_eq_getElem?_getD, ht]; rfl
      have mc : mulC t p.b = true := mx (by rw [← e1]; exact hq.get k) (by simpa using hp.2.1) (by omega)
      have hkM : k < L.length := by omega
      simp [mc, idxN_nat hkM, hkM]
      refine (hJ _ _ _).mpr ⟨L.set k (L[k] + t * p.b), _, _, rfl, by rw [map_set], by simpa using hL, fun j => ?_⟩
      have ek : L[k] = L.getD k 0 := by simp [List.getD_eq_getElem?_getD, hkM]
      rw [set_getD hkM, ek, hg j, hg k]
      by_cases hj : j = k
      · subst hj; rw [if_pos rfl, if_neg (Nat.lt_irrefl j), if_pos (Nat.lt_succ_self j), e1]; omega
      · rw [if_neg hj]
        by_cases h1 : j < k
        · rw [if_pos h1, if_pos (by omega)]
        · rw [if_neg h1, if_neg (by omega)]
    · intro l s h
      obtain ⟨L, v, w, rfl, rfl, hL, hg⟩ := (hJ _ _ _).mp h
      have mc : mulC p.b q.b = true := mx (a := n) (b := n2) (by simpa using hp.2.1) (by simpa using hq.2.1) hn
      have hbb : p.b * q.b < 2 ^ 8999 := by
        have := two_ltx (i := (p.b : Int)) (j := (q.b : Int)) (by simpa using hp.2.1) (by simpa using hq.2.1) hn
        rw [← Int.natCast_mul] at this
        exact this
      simp [mc]
      have e := over_to (S := .list (L.map .int)) (ts := L) (b := p.b * q.b) (P := fun d => noLst d = true ∧ P d) (.inl rfl) (Nat.mul_pos p.hb q.hb) hbb (by omega) ?_
      · rw [Int.natCast_mul] at e; exact e
      · refine ⟨noLst_poly, ?_⟩
        rw [mk_congr (us := sumL p q) (Nat.mul_pos p.hb q.hb) fun j => ?_]
        · exact hP
        · rw [sumL_get, hg j]
          split
          · rfl
          · rename_i hj
            rw [List.getD_eq_getElem?_getD (l := q.ts), List.getElem?_eq_none (by simpa using hj)]; simp
theorem plus_to {p q : Pol} {n m : Nat} {P : PyData → Prop} (hp : PBt n m p) (hq : PBt n m q) (hm : m ≤ 1000) (h0 : 0 < n) (hn : n ≤ 4400) (hP : P (polyD (p + q))) : (m_plus [polyD p, polyD q]).To P := plusx hp hq hm (by omega) hP
end NW

namespace NW
open PySem PySem.Spec PyProof.Rows L2
/-- times a fraction -/
def Pol.sc (p : Pol) (r : Rat) : Pol := NW.mk (p.ts.map fun t => t * r.num) (p.b * r.den)
theorem co_sc {p : Pol} {r : Rat} {k : Nat} : (p.sc r).co k = p.co k * r := by
  have hp := p.hb
  have hr := r.den_pos
  unfold Pol.sc
  rw [co_mk (Nat.mul_pos hp hr), getD_map (by simp)]
  unfold Pol.co
  conv => rhs; rw [← Rat.num_divInt_den r]
  rw [Rat.divInt_mul_divInt, Int.natCast_mul]
theorem evC_mulr {x c : Rat} : ∀ {n : Nat} {f : Nat → Rat}, evC n (fun k => f k * c) x = evC n f x * c
  | 0, _ => by simp [evC]
  | n + 1, f => by rw [evC, evC, evC_mulr]; grind
theorem ev_sc {p : Pol} {r x : Rat} : (p.sc r).ev x = p.ev x * r := by
  have e : (p.sc r).co = fun k => p.co k * r := funext fun k => co_sc
  rw [ev_co (n := max (p.sc r).ts.length p.ts.length) (by omega), e, evC_mulr, ← ev_co (by omega)]
theorem scaledx {p : Pol} {r : Rat} {n n2 m : Nat} {P : PyData → Prop} (hp : PBt n m p) (hr : FB n2 r) (hm : m ≤ 1000) (hn : n + n2 ≤ 8999) (h : P (polyD (p.sc r))) : (m_scaled [polyD p, fracD r]).To P := by
  unfold m_scaled
  rw [pure_to]
  unfold b_scaled
  have hpl := hp.1
  simp [startL]
  refine ⟨_, _, ⟨rfl, rfl⟩, by simp; omega, ?_⟩
  refine lc_mapA (g := fun t => .int (t * r.num)) chk_nil ?_ ?_
  · intro t ht
    have mc : mulC t r.num = true := mx (hp.2.2 t ht) hr.1 hn
    simp [wipeL, mc]
  · have mc : mulC p.b r.den = true := mx (a := n) (b := n2) (by simpa using hp.2.1) (by simpa using hr.2) hn
    have hbb : p.b * r.den < 2 ^ 8999 := by
      have := two_ltx (i := (p.b : Int)) (j := (r.den : Int)) (by simpa using hp.2.1) (by simpa using hr.2) hn
      rw [← Int.natCast_mul] at this
      exact this
    simp [mc]
    have e := over_to (S := .list ((p.ts.map fun t => t * r.num).map .int)) (b := p.b * r.den) (P := P) (.inl rfl) (Nat.mul_pos p.hb r.den_pos) hbb (by simp; omega) h
    rw [Int.natCast_mul, List.map_map] at e
    exact e
theorem scaled_to {p : Pol} {r : Rat} {n m : Nat} {P : PyData → Prop} (hp : PBt n m p) (hr : FB n r) (hm : m ≤ 1000) (h0 : 0 < n) (hn : n ≤ 4400) (h : P (polyD (p.sc r))) : (m_scaled [polyD p, fracD r]).To P := scaledx hp hr hm (by omega) h
end NW

namespace NW
open PySem PySem.Spec PyProof.Rows L2
theorem gs_app : ∀ (as : List Int) (g : Nat) (c : Int), gs g (as ++ [c]) = Int.gcd (gs g as) c
  | [], g, c => rfl
  | a :: as, g, c => by rw [List.cons_append, gs, gs, gs_app]
theorem idx_last {n : Nat} (h : 0 < n) : idxN n (-1) = some (n - 1) := by
  unfold idxN
  rw [if_neg (by omega), if_pos (by omega)]
  congr 1; omega
@[simp] theorem shaped_poly {p : Pol} : SeqAt.shaped (polyD p) = true := by
  have c : ∀ ts : List Int, PyData.canLayAll0 (ts.map .int) = true ∧ PyData.depthAll (ts.map .int) ≤ 0 := by
    intro ts
    induction ts with
    | nil => exact ⟨rfl, by simp [PyData.depthAll]⟩
    | cons t ts ih => exact ⟨by simp [PyData.canLayAll0, PyData.canLay0, ih.1], by simpa [PyData.depthAll, PyData.depth] using ih.2⟩
  have := c p.ts
  simp [polyD, SeqAt.shaped, PyData.canLay0, PyData.canLayAll0, PyData.depth, PyData.depthAll, this.1]
  omega
theorem eqvAll_ints : ∀ {ts us : List Int}, PyData.eqvAll (ts.map .int) (us.map .int) = decide (ts = us)
  | [], [] => by simp [PyData.eqvAll]
  | [], _ :: _ => by simp [PyData.eqvAll]
  | _ :: _, [] => by simp [PyData.eqvAll]
  | t :: ts, u :: us => by
    rw [List.map_cons, List.map_cons, PyData.eqvAll, eqvAll_ints, eqv_int, ← Bool.decide_and]
    exact decide_eq_decide.mpr (by rw [List.cons.injEq])
@[simp] theorem eqv_poly {p q : Pol} : PyData.eqv (polyD p) (polyD q) = true ↔ p = q := by
  simp only [polyD, PyData.eqv, PyData.eqvAll, eqvAll_ints]
  simp
  constructor
  · rintro ⟨a, b⟩
    cases p; cases q
    simp at a b
    have b' := Int.ofNat.inj b
    subst a; subst b'; rfl
  · rintro rfl; simp
theorem lk_poly {n : Nat} {p : Pol} (h : p.ts.length ≤ 1000) : Lk (n + 3) (polyD p) := ⟨by simp, fun x hx => by
  simp at hx
  rcases hx with rfl | rfl
  · exact ⟨by simp; omega, fun x hx => by
      obtain ⟨t, ht, rfl⟩ := List.mem_map.mp hx
      trivial⟩
  · trivial⟩
theorem ofC_len {qs : List Rat} : (ofC qs).ts.length ≤ qs.length := by
  by_cases h : (ofC qs).ts.length ≤ qs.length
  · exact h
  · exfalso
    have hn : (ofC qs).ts ≠ [] := fun e => by rw [e] at h; simp at h
    have hb := (ofC qs).hb
    have := tr_get (ofC qs).ht hn
    have e := co_ofC (qs := qs) ((ofC qs).ts.length - 1)
    rw [List.getD_eq_getElem?_getD (l := qs), List.getElem?_eq_none (by omega)] at e
    unfold Pol.co at e
    have e2 : Rat.divInt ((ofC qs).ts.getD ((ofC qs).ts.length - 1) 0) (ofC qs).b = Rat.divInt 0 1 := by rw [e, Rat.zero_divInt]; rfl
    have := (Rat.divInt_eq_divInt_iff (by omega) (by omega)).mp e2
    omega
theorem lk_int {n : Nat} {i : Int} : Lk (n + 1) (.int i) := trivial
theorem mk_b_le {ts : List Int} {b : Nat} (hb : 0 < b) : (mk ts b).b ≤ b := by
  unfold mk
  rw [dif_pos hb]
  exact Nat.div_le_self _ _
theorem lcms_lt {n : Nat} : ∀ {qs : List Rat} {b m : Nat}, (∀ q, q ∈ qs → FB n q) → b < 2 ^ m → lcms b qs < 2 ^ (m + qs.length * n)
  | [], b, m, _, h => by simpa [lcms] using h
  | q :: qs, b, m, hq, h => by
    rw [lcms]
    have := lcms_lt (fun r hr => hq r (List.mem_cons_of_mem _ hr)) (lcm_lt h (hq q (by simp)).2)
    refine Nat.lt_of_lt_of_le this (Nat.pow_le_pow_right (by omega) ?_)
    simp [Nat.add_mul]; omega
theorem ofC_b {qs : List Rat} {n : Nat} (hq : ∀ q, q ∈ qs → FB n q) (h : qs.length * n ≤ 8000) : (ofC qs).b < 2 ^ 8999 := by
  refine Nat.lt_of_le_of_lt (mk_b_le (lcms_pos (by decide))) ?_
  exact Nat.lt_of_lt_of_le (lcms_lt (m := 1) hq (by decide)) (Nat.pow_le_pow_right (by omega) (by omega))
theorem maxI_cons {a m : Int} {xs : List Int} (h : maxI (a :: xs) = some m) : a ≤ m ∧ (∀ y, y ∈ xs → y ≤ m) ∧ (m = a ∨ m ∈ xs) := by
  cases h
  exact ⟨(foldl_max xs a).1, (foldl_max xs a).2, foldl_max_mem xs a⟩
theorem maxM {qs : List Rat} : ∃ M : Nat, maxI ((0 : Int) :: (List.filter (fun k => !decide (qs.getD k 0 = 0)) (List.range qs.length)).map fun (k : Nat) => ((k : Int) + 1)) = some (M : Int) ∧ (M ≠ 0 → qs.getD (M - 1) 0 ≠ 0) ∧ ∀ k, M ≤ k → qs.getD k 0 = 0 := by
  generalize hks : (List.filter (fun k => !decide (qs.getD k 0 = 0)) (List.range qs.length)) = ks
  obtain ⟨m, hm⟩ : ∃ m, maxI ((0 : Int) :: (ks.map fun (k : Nat) => ((k : Int) + 1))) = some m := ⟨_, rfl⟩
  obtain ⟨a3, a1, a2⟩ := maxI_cons hm
  rw [hm]
  refine ⟨m.toNat, congrArg some (by omega), fun h => ?_, fun k hk => ?_⟩
  · rcases a2 with a2 | a2
    · omega
    · obtain ⟨j, hj, rfl⟩ := List.mem_map.mp a2
      rw [← hks] at hj
      have := (List.mem_filter.mp hj).2
      have e : ((j : Int) + 1).toNat - 1 = j := by omega
      rw [e]
      simpa using this
  · by_cases hk' : k < qs.length
    · by_cases h0 : qs.getD k 0 = 0
      · exact h0
      · exfalso
        have : k ∈ ks := by
          rw [← hks]
          exact List.mem_filter.mpr ⟨List.mem_range.mpr hk', by simpa using h0⟩
        have := a1 ((k : Int) + 1) (List.mem_map.mpr ⟨k, this, rfl⟩)
        omega
    · rw [List.getD_eq_getElem?_getD, List.getElem?_eq_none (by omega)]; rfl
theorem lay_all {xs : List PyData} (h : ∀ x, x ∈ xs → x.canLay0 = true) : PyData.canLayAll0 xs = true := by
  induction xs with
  | nil => rfl
  | cons x xs ih => rw [PyData.canLayAll0, h x (by simp), ih fun y hy => h y (by simp [hy])]; rfl
theorem depth_all {n : Nat} {xs : List PyData} (h : ∀ x, x ∈ xs → x.depth ≤ n) : PyData.depthAll xs ≤ n := by
  induction xs with
  | nil => simp [PyData.depthAll]
  | cons x xs ih => rw [PyData.depthAll]; exact Nat.max_le.mpr ⟨h x (by simp), ih fun y hy => h y (by simp [hy])⟩
theorem lk_lay : ∀ {n : Nat} {d : PyData}, Lk n d → d.canLay0 = true ∧ d.depth ≤ n := by
  intro n
  induction n with
  | zero => intro d h; exact h.elim
  | succ n ih =>
    intro d h
    cases d with
    | list xs =>
      refine ⟨by rw [PyData.canLay0]; exact lay_all fun x hx => (ih (h.2 x hx)).1, ?_⟩
      rw [PyData.depth]
      have := depth_all (n := n) (xs := xs) fun x hx => (ih (h.2 x hx)).2
      omega
    | tuple xs =>
      refine ⟨by rw [PyData.canLay0]; exact lay_all fun x hx => (ih (h.2 x hx)).1, ?_⟩
      rw [PyData.depth]
      have := depth_all (n := n) (xs := xs) fun x hx => (ih (h.2 x hx)).2
      omega
    | dict xs => exact h.elim
    | str z => exact ⟨h, by simp [PyData.depth]⟩
    | _ => exact ⟨rfl, by simp [PyData.depth]⟩
theorem lk_shaped {n : Nat} {d : PyData} (h : Lk n d) (hn : n ≤ 64) : SeqAt.shaped d = true := by
  obtain ⟨a, b⟩ := lk_lay h
  unfold SeqAt.shaped
  rw [a, Bool.true_and]; exact decide_eq_true (by omega)
theorem lk_eqv {n : Nat} {d : PyData} (h : Lk n d) : PyData.eqv d d = true := PySem.SeqAt.eqv_refl d (lk_lay h).1
theorem cutD_takeN {xs : List PyData} {k : Nat} : cutD xs none (some (k : Int)) = xs.take k := by
  unfold cutD
  rw [HT.sIx_nat, HT.sIx_none]
  rw [List.drop_zero, Nat.sub_zero]
  by_cases h : k ≤ xs.length
  · rw [Nat.min_eq_left h]
  · rw [Nat.min_eq_right (by omega), List.take_of_length_le (Nat.le_refl _), List.take_of_length_le (by omega)]
theorem ofC_nought {qs : List Rat} : ofC (qs ++ [0]) = ofC qs := Pol.ext_co fun k => by
  rw [co_ofC, co_ofC, List.getD_eq_getElem?_getD, List.getD_eq_getElem?_getD]
  by_cases h : k < qs.length
  · rw [List.getElem?_append_left h]
  · rw [List.getElem?_eq_none (l := qs) (by omega)]
    by_cases h2 : k = qs.length
    · subst h2; simp
    · rw [List.getElem?_eq_none (by simp; omega)]
theorem set_last {ds : List Ob} {x y : Ob} : (ds ++ [x]).set ds.length y = ds ++ [y] := by
  rw [List.set_append_right _ _ (Nat.le_refl _)]; simp
theorem all_frac {n : Nat} {ys : List PyData} (h : ∀ y, y ∈ ys → ∃ q, y = fracD q ∧ FB n q) : ∃ qs : List Rat, ys = qs.map fracD ∧ ∀ q, q ∈ qs → FB n q := by
  induction ys with
  | nil => exact ⟨[], rfl, by simp⟩
  | cons y ys ih =>
    obtain ⟨q, rfl, hq⟩ := h y (by simp)
    obtain ⟨qs, rfl, hqs⟩ := ih fun z hz => h z (by simp [hz])
    refine ⟨q :: qs, rfl, fun r hr => ?_⟩
    rcases List.mem_cons.mp hr with rfl | hr
    · exact hq
    · exact hqs r hr
end NW

namespace NW
open PySem PySem.Spec PyProof.Rows L2
/-! ### products -/
def addZ : List Int → List Int → List Int
  | [], us => us
  | t :: ts, [] => t :: ts
  | t :: ts, u :: us => (t + u) :: addZ ts us
def mulZ : List Int → List Int → List Int
  | [], _ => []
  | t :: ts, us => addZ (us.map fun u => t * u) (0 :: mulZ ts us)
theorem evZ_addZ {x : Rat} : ∀ {ts us : List Int}, evZ (addZ ts us) x = evZ ts x + evZ us x
  | [], us => by rw [addZ]; simp [evZ]; grind
  | t :: ts, [] => by rw [addZ]; simp [evZ]; grind
  | t :: ts, u :: us => by rw [addZ, evZ, evZ, evZ, evZ_addZ, Rat.intCast_add]; grind
theorem evZ_mulZ {x : Rat} : ∀ {ts us : List Int}, evZ (mulZ ts us) x = evZ ts x * evZ us x
  | [], us => by rw [mulZ]; simp [evZ]
  | t :: ts, us => by rw [mulZ, evZ_addZ, evZ_mul, evZ, evZ, evZ_mulZ]; simp; grind
theorem addZ_len : ∀ {ts us : List Int} {m : Nat}, ts.length ≤ m → us.length ≤ m → (addZ ts us).length ≤ m
  | [], us, m, _, h => h
  | t :: ts, [], m, h, _ => h
  | t :: ts, u :: us, 0, h, _ => by simp at h
  | t :: ts, u :: us, m + 1, h, h' => by
    rw [addZ, List.length_cons]
    have := addZ_len (ts := ts) (us := us) (m := m) (by simpa using h) (by simpa using h')
    omega
theorem mulZ_len : ∀ {ts us : List Int}, (mulZ ts us).length ≤ ts.length + us.length
  | [], us => by simp [mulZ]
  | t :: ts, us => by
    rw [mulZ]
    refine addZ_len ?_ ?_
    · simp
    · have := mulZ_len (ts := ts) (us := us)
      simp; omega
/-- all of them are at most so great -/
def BZ (B : Nat) (ts : List Int) : Prop := ∀ t, t ∈ ts → t.natAbs ≤ B
theorem BZ.add {A B : Nat} : ∀ {ts us : List Int}, BZ A ts → BZ B us → BZ (A + B) (addZ ts us)
  | [], us, _, h => fun t ht => Nat.le_trans (h t ht) (by omega)
  | t :: ts, [], h, _ => fun u hu => Nat.le_trans (h u hu) (by omega)
  | t :: ts, u :: us, h, h' => fun w hw => by
    rw [addZ] at hw
    rcases List.mem_cons.mp hw with rfl | hw
    · have a := h t (by simp)
      have b := h' u (by simp)
      omega
    · exact BZ.add (fun x hx => h x (by simp [hx])) (fun x hx => h' x (by simp [hx])) w hw
theorem BZ.mul {A B : Nat} : ∀ {ts us : List Int}, BZ A ts → BZ B us → BZ (ts.length * (A * B)) (mulZ ts us)
  | [], us, _, _ => fun t ht => by rw [mulZ] at ht; cases ht
  | t :: ts, us, h, h' => by
    rw [mulZ]
    have ih := BZ.mul (ts := ts) (us := us) (fun x hx => h x (by simp [hx])) h'
    have := BZ.add (A := A * B) (B := ts.length * (A * B)) (ts := us.map fun u => t * u) (us := 0 :: mulZ ts us) (fun w hw => by
      obtain ⟨u, hu, rfl⟩ := List.mem_map.mp hw
      rw [Int.natAbs_mul]
      exact Nat.mul_le_mul (h t (by simp)) (h' u hu)) (fun w hw => by
      rcases List.mem_cons.mp hw with rfl | hw
      · simp
      · exact ih w hw)
    have e : A * B + ts.length * (A * B) = (t :: ts).length * (A * B) := by
      rw [List.length_cons, Nat.add_mul, Nat.one_mul, Nat.add_comm]
    rw [← e]; exact this
instance : Mul Pol := ⟨fun p q => mk (mulZ p.ts q.ts) (p.b * q.b)⟩
theorem ev_mul {p q : Pol} {x : Rat} : (p * q).ev x = p.ev x * q.ev x := by
  show (mk (mulZ p.ts q.ts) (p.b * q.b)).ev x = _
  rw [ev_mk (Nat.mul_pos p.hb q.hb), evZ_mulZ]
  unfold Pol.ev
  have a := p.bne
  have b := q.bne
  rw [Int.natCast_mul, Rat.intCast_mul]
  grind
theorem evZ_take {x : Rat} : ∀ {ts : List Int} {k : Nat} {t : Int}, ts[k]? = some t → evZ (ts.take (k + 1)) x = evZ (ts.take k) x + t * x ^ k
  | [], _, _, h => by simp at h
  | a :: ts, 0, t, h => by
    simp at h; subst h
    simp [evZ]; grind
  | a :: ts, k + 1, t, h => by
    have := evZ_take (x := x) (ts := ts) (k := k) (t := t) (by simpa using h)
    rw [List.take_succ_cons, List.take_succ_cons, evZ, evZ, this]
    grind
/-! how great -/
theorem PBt.mk {ts : List Int} {b n m : Nat} (hb : 0 < b) (h1 : ts.length ≤ m) (h2 : b < 2 ^ n) (h3 : ∀ t, t ∈ ts → t.natAbs < 2 ^ n) : PBt n m (NW.mk ts b) := by
  have hbl := mk_b_le (ts := ts) hb
  refine ⟨?_, by omega, fun t ht => ?_⟩
  · unfold NW.mk
    rw [dif_pos hb]
    simp [mkT]; omega
  · unfold NW.mk at ht
    rw [dif_pos hb] at ht
    obtain ⟨u, hu, rfl⟩ := List.mem_map.mp ht
    refine Nat.lt_of_le_of_lt (Int.natAbs_ediv_le_natAbs _ _) (h3 u (List.mem_of_mem_take hu))
theorem PBt.mono {n m n' m' : Nat} {p : Pol} (h : PBt n m p) (hn : n ≤ n') (hm : m ≤ m') : PBt n' m' p :=
  ⟨Nat.le_trans h.1 hm, Nat.lt_of_lt_of_le h.2.1 (Nat.pow_le_pow_right (by omega) hn), fun t ht => Nat.lt_of_lt_of_le (h.2.2 t ht) (Nat.pow_le_pow_right (by omega) hn)⟩
theorem PBt.add {n1 n2 m : Nat} {p q : Pol} (hp : PBt n1 m p) (hq : PBt n2 m q) : PBt (n1 + n2 + 1) m (p + q) := by
  have hpw : 2 ^ (n1 + n2 + 1) = 2 ^ n1 * 2 ^ n2 + 2 ^ n1 * 2 ^ n2 := by rw [Nat.pow_succ, Nat.pow_add]; omega
  have hbb : p.b * q.b < 2 ^ n1 * 2 ^ n2 := Nat.mul_lt_mul'' hp.2.1 hq.2.1
  refine PBt.mk (Nat.mul_pos p.hb q.hb) ?_ (by omega) fun t ht => ?_
  · have := hp.1; have := hq.1
    simp [sumL]; omega
  · obtain ⟨k, hk, rfl⟩ := List.mem_map.mp ht
    have a : (p.ts.getD k 0 * q.b).natAbs < 2 ^ n1 * 2 ^ n2 := by
      rw [Int.natAbs_mul, Int.natAbs_natCast]; exact Nat.mul_lt_mul'' (hp.get k) hq.2.1
    have b : (q.ts.getD k 0 * p.b).natAbs < 2 ^ n1 * 2 ^ n2 := by
      rw [Int.natAbs_mul, Int.natAbs_natCast, Nat.mul_comm]; exact Nat.mul_lt_mul'' hp.2.1 (hq.get k)
    omega
theorem PBt.mul {n1 n2 m1 m2 : Nat} {p q : Pol} (hp : PBt n1 m1 p) (hq : PBt n2 m2 q) (hm : m1 ≤ 1000) : PBt (n1 + n2 + 10) (m1 + m2) (p * q) := by
  have hpw : 2 ^ (n1 + n2 + 10) = 1024 * (2 ^ n1 * 2 ^ n2) := by rw [Nat.pow_add, Nat.pow_add]; omega
  have hbb : p.b * q.b < 2 ^ n1 * 2 ^ n2 := Nat.mul_lt_mul'' hp.2.1 hq.2.1
  have h1 := hp.1
  have h2 := hq.1
  refine PBt.mk (Nat.mul_pos p.hb q.hb) ?_ (by omega) fun t ht => ?_
  · have := mulZ_len (ts := p.ts) (us := q.ts)
    omega
  · have z := BZ.mul (A := 2 ^ n1) (B := 2 ^ n2) (ts := p.ts) (us := q.ts) (fun t ht => Nat.le_of_lt (hp.2.2 t ht)) (fun t ht => Nat.le_of_lt (hq.2.2 t ht)) t ht
    have : p.ts.length * (2 ^ n1 * 2 ^ n2) ≤ 1000 * (2 ^ n1 * 2 ^ n2) := Nat.mul_le_mul_right _ (by omega)
    have : 0 < 2 ^ n1 * 2 ^ n2 := Nat.mul_pos (Nat.two_pow_pos _) (Nat.two_pow_pos _)
    omega
theorem PBt.sc {n1 n2 m : Nat} {p : Pol} {r : Rat} (hp : PBt n1 m p) (hr : FB n2 r) : PBt (n1 + n2) m (p.sc r) := by
  have hpw : 2 ^ (n1 + n2) = 2 ^ n1 * 2 ^ n2 := by rw [Nat.pow_add]
  refine PBt.mk (Nat.mul_pos p.hb r.den_pos) (by simpa using hp.1) (by rw [hpw]; exact Nat.mul_lt_mul'' hp.2.1 hr.2) fun t ht => ?_
  obtain ⟨u, hu, rfl⟩ := List.mem_map.mp ht
  rw [hpw, Int.natAbs_mul]
  exact Nat.mul_lt_mul'' (hp.2.2 u hu) hr.1
theorem timesx {p q : Pol} {n n2 m m2 : Nat} {P : PyData → Prop} (hp : PBt n m p) (hq : PBt n2 m2 q) (hm : m ≤ 1000) (hm2 : m2 ≤ 1000) (hn : n + n2 ≤ 8999) (hP : P (polyD (p * q))) : (m_times [polyD p, polyD q]).To P := by
  unfold m_times
  rw [pure_to]
  unfold b_times
  have hpl := hp.1
  have hql := hq.1
  simp [startL]
  generalize hM : p.ts.length + q.ts.length = M
  have eM : (p.ts.length : Int) + q.ts.length = (M : Int) := by omega
  rw [eM]
  refine ⟨by omega, _, _, ⟨rfl, rfl⟩, ?_⟩
  obtain ⟨I, hI⟩ : ∃ I : Nat → NW.Loc → Sto → Prop, ∀ k l s, I k l s ↔ ∃ (L : List Int) (v w a b : Option U), l = [some (.d (polyD p)), some (.d (polyD q)), some (.ref 0), v, w, a, b] ∧ s = ⟨none, [.lst (L.map .int)]⟩ ∧ L.length = M ∧ ∀ x, evZ L x = evZ (p.ts.take k) x * evZ q.ts x := ⟨_, fun _ _ _ => Iff.rfl⟩
  refine for_ix I (fun _ _ _ _ => chk_nil) ((hI _ _ _).mpr ⟨List.replicate M 0, none, none, none, none, rfl, by simp, by simp, fun x => by rw [evZ_zero]; simp [evZ]⟩) ?_ ?_
  · rintro k x l s hx h
    obtain ⟨L, v, w, a, b, rfl, rfl, hL, hg⟩ := (hI _ _ _).mp h
    obtain ⟨t, ht, rfl⟩ := enum_int hx
    have hk : k < p.ts.length := (List.getElem?_eq_some_iff.mp ht).1
    have htb := hp.2.2 t (List.mem_of_getElem? ht)
    simp
    refine ⟨_, _, ⟨rfl, rfl⟩, ?_⟩
    obtain ⟨J, hJ⟩ : ∃ J : Nat → NW.Loc → Sto → Prop, ∀ j l s, J j l s ↔ ∃ (L : List Int) (a b : Option U), l = [some (.d (polyD p)), some (.d (polyD q)), some (.ref 0), some (.d (.int (k : Nat))), some (.d (.int t)), a, b] ∧ s = ⟨none, [.lst (L.map .int)]⟩ ∧ L.length = M ∧ ∀ x, evZ L x = evZ (p.ts.take k) x * evZ q.ts x + t * x ^ k * evZ (q.ts.take j) x := ⟨_, fun _ _ _ => Iff.rfl⟩
    refine for_ix J (fun _ _ _ _ => chk_nil) ((hJ _ _ _).mpr ⟨L, a, b, rfl, rfl, hL, fun x => by rw [hg x]; simp [evZ]; grind⟩) ?_ ?_
    · rintro j y l s hy h
      obtain ⟨L, a, b, rfl, rfl, hL, hg⟩ := (hJ _ _ _).mp h
      obtain ⟨u, hu, rfl⟩ := enum_int hy
      have hj : j < q.ts.length := (List.getElem?_eq_some_iff.mp hu).1
      have mc : mulC t u = true := mx htb (hq.2.2 u (List.mem_of_getElem? hu)) hn
      obtain ⟨i, hi⟩ : ∃ i, i = k + j := ⟨_, rfl⟩
      have hkM : i < L.length := by omega
      have e1 : (k : Int) + j = (i : Int) := by omega
      simp [mc, e1, idxN_nat hkM, hkM]
      refine (hJ _ _ _).mpr ⟨L.set i (L[i] + t * u), _, _, rfl, by rw [map_set], by simpa using hL, fun x => ?_⟩
      rw [evZ_set (by simp [hkM]), hg x, evZ_take hu, Rat.intCast_mul, hi]
      grind
    · intro l s h
      obtain ⟨L, a, b, rfl, rfl, hL, hg⟩ := (hJ _ _ _).mp h
      refine (hI _ _ _).mpr ⟨L, _, _, _, _, rfl, rfl, hL, fun x => ?_⟩
      have : (enumD (q.ts.map PyData.int)).length = q.ts.length := by simp [enumD]
      rw [hg x, evZ_take ht, this, List.take_length]
      grind
  · intro l s h
    obtain ⟨L, v, w, a, b, rfl, rfl, hL, hg⟩ := (hI _ _ _).mp h
    have mc : mulC p.b q.b = true := mx (a := n) (b := n2) (by simpa using hp.2.1) (by simpa using hq.2.1) hn
    have hbb : p.b * q.b < 2 ^ 8999 := by
      have := two_ltx (i := (p.b : Int)) (j := (q.b : Int)) (by simpa using hp.2.1) (by simpa using hq.2.1) hn
      rw [← Int.natCast_mul] at this
      exact this
    simp [mc]
    have e := over_to (S := .list (L.map .int)) (ts := L) (b := p.b * q.b) (P := fun d => noLst d = true ∧ P d) (.inl rfl) (Nat.mul_pos p.hb q.hb) hbb (by omega) ?_
    · rw [Int.natCast_mul] at e; exact e
    · refine ⟨noLst_poly, ?_⟩
      have el : (enumD (p.ts.map PyData.int)).length = p.ts.length := by simp [enumD]
      have ee : NW.mk L (p.b * q.b) = p * q := mk_ext (Nat.mul_pos p.hb q.hb) (Nat.mul_pos p.hb q.hb) fun x => by rw [hg x, el, List.take_length, evZ_mulZ]
      rw [ee]; exact hP
theorem times_to {p q : Pol} {n m : Nat} {P : PyData → Prop} (hp : PBt n m p) (hq : PBt n m q) (hm : m ≤ 1000) (h0 : 0 < n) (hn : n ≤ 4400) (hP : P (polyD (p * q))) : (m_times [polyD p, polyD q]).To P := timesx hp hq hm hm (by omega) hP
end NW

namespace NW
open PySem PySem.Spec PyProof.Rows L2
section
variable {st : Sto} {Q : U → Sto → Prop}
@[simp] theorem to_mPop {k : Nat} : (mPop (.ref k) [] st).To Q ↔ ∃ xs y, st.obs[k]? = some (.lst xs) ∧ xs[xs.length - 1]? = some y ∧ Q (.d y) (st.put k xs.dropLast) := by
  unfold mPop
  cases e : ownL st (.ref k) with
  | none =>
    refine ⟨fun w => w.elim, fun ⟨xs, y, h, _⟩ => ?_⟩
    rw [ownL_ref.mpr ⟨h, rfl⟩] at e; cases e
  | some p =>
    obtain ⟨j, ys⟩ := p
    obtain ⟨e1, rfl⟩ := ownL_ref.mp e
    show (match ys[ys.length - 1]? with
      | some y => Res.ok (U.d y) (st.put j ys.dropLast)
      | none => .no).To Q ↔ _
    cases e2 : ys[ys.length - 1]? with
    | none =>
      refine ⟨fun w => w.elim, fun ⟨xs, y, h, h2, _⟩ => ?_⟩
      rw [e1] at h; cases h; rw [e2] at h2; cases h2
    | some y =>
      refine ⟨fun w => ⟨ys, y, e1, e2, w⟩, fun ⟨xs, z, h, h2, w⟩ => ?_⟩
      rw [e1] at h; cases h; rw [e2] at h2; cases h2; exact w
/-- a drawn one of some -/
theorem ixl_to {xs : List PyData} {i : Int} {p : PyData → Prop} (h0 : 0 ≤ i) (h1 : i < xs.length) (hp : ∀ x, x ∈ xs → p x) (h : ∀ x, p x → Q (.d x) st) : (fIx (.d (.list xs)) (.d (.int i)) st).To Q := by
  obtain ⟨n, rfl⟩ := Int.eq_ofNat_of_zero_le h0
  have hn : n < xs.length := by omega
  rw [to_ixL]
  exact ⟨xs[n], by rw [idxN_nat hn]; simp [hn], h _ (hp _ (List.getElem_mem hn))⟩
theorem SeqD.lst {S : PyData} {xs : List PyData} (h : SeqD S xs) {P : List PyData → Sto → Prop} : (cListOf [.d S] st).To P ↔ P xs st := by rcases h with rfl | rfl <;> exact Iff.rfl
end
theorem gs_snoc : ∀ (as : List Int) (g : Nat) (c : Int), gs g (as ++ [c]) = Int.gcd (gs g as) c
  | [], g, c => rfl
  | a :: as, g, c => by rw [List.cons_append, gs, gs, gs_snoc]
theorem idx_end {n : Nat} (h : 0 < n) : idxN n (-1) = some (n - 1) := by
  unfold idxN
  rw [if_neg (by omega), if_pos (by omega)]
  congr 1; omega
theorem L_poly_to {S : PyData} {ts : List Int} {b : Nat} {P : PyData → Prop} (hS : SeqD S (ts.map .int)) (hb : 0 < b) (hn : b < 2 ^ 8999) (hl : ts.length ≤ 16777216) (h : P (polyD (mk ts b))) : (m_L_poly [S, .int b]).To P := by
  unfold m_L_poly
  rw [pure_to]
  unfold b_L_poly
  simp [startL, hS.lst]
  refine while_to (I := fun n l s => s = ⟨none, [.lst ((ts.take n).map .int)]⟩ ∧ l = [some (.ref 0), some (.d (.int b)), none, none] ∧ n ≤ ts.length ∧ ∀ k, n ≤ k → ts.getD k 0 = 0) ?_ ts.length _ _ ⟨by simp, rfl, Nat.le_refl _, fun k hk => by simp [List.getD_eq_getElem?_getD, List.getElem?_eq_none hk]⟩
  rintro n l s ⟨rfl, rfl, h1, h2⟩
  obtain ⟨us, hus⟩ : ∃ us, us = ts.take n := ⟨_, rfl⟩
  rw [← hus]
  have hlen : us.length = n := by rw [hus]; simp; omega
  have post : (n ≠ 0 → ts.getD (n - 1) 0 ≠ 0) → (sSeq (sAsg 2 (eVar 1))
      (sSeq (sFor (mAny (eVar 0)) (gNameM 3) (sAsg 2 (eCallP 2 m_L_common (aCons (eVar 2) (aCons (eVar 3) aNil)))))
      (sRet (eTup (aCons (eCB cTupOf (aCons (eFrz (lLc (mAny (eVar 0)) [3] (gNameM 3) bYes (eOp fDiv (eVar 3) (eVar 2)))) aNil)) (aCons (eOp fDiv (eVar 1) (eVar 2)) aNil))))) [some (.ref 0), some (.d (.int b)), none, none] ⟨none, [.lst (us.map .int)]⟩).To (fun _ _ => P .none) (retP P) := by
    intro hz
    rw [hus] at hlen ⊢
    have tr : Tr (ts.take n) := tr_of fun hne => by
      have hn0 : n ≠ 0 := fun e => by subst e; simp at hne
      have := hz hn0
      rw [hlen]
      rw [List.getD_eq_getElem?_getD, List.getElem?_take_of_lt (by omega), ← List.getD_eq_getElem?_getD]
      exact this
    have eq : mkT (ts.take n) tr b hb = mk ts b := Pol.ext_co fun k => by
      rw [co_mkT, co_mk hb]
      congr 1
      by_cases hk : k < n
      · rw [List.getD_eq_getElem?_getD, List.getElem?_take_of_lt hk, ← List.getD_eq_getElem?_getD]
      · rw [h2 k (by omega), List.getD_eq_getElem?_getD, List.getElem?_eq_none (by simp; omega)]; rfl
    have hly : (ts.take n).length ≤ 16777216 := by simp; omega
    clear hz h2
    generalize ts.take n = ys at tr eq hly
    have hgp := gs_pos (ts := ys) hb
    have hgl : gs b ys ≤ b := Nat.le_of_dvd hb gs_self
    simp
    refine ⟨_, _, ⟨rfl, rfl⟩, ?_⟩
    refine for_to (I := fun zs l s => s = ⟨none, [.lst (ys.map .int)]⟩ ∧ ∃ (as bs : List Int) (v : Option U), ys = as ++ bs ∧ zs = bs.map .int ∧ l = [some (.ref 0), some (.d (.int b)), some (.d (.int (gs b as))), v]) (fun _ _ _ h => by rw [h.1]; exact chk_one rfl) ?_ ?_ _ _ _ ⟨rfl, [], ys, none, rfl, rfl, rfl⟩
    · rintro x zs l s ⟨rfl, as, bs, v, e1, e2, rfl⟩
      cases bs with
      | nil => cases e2
      | cons c bs =>
        cases e2
        simp
        refine common_to ?_
        exact ⟨as ++ [c], bs, by rw [e1]; simp, rfl, by rw [gs_snoc]⟩
    · rintro l s ⟨rfl, as, bs, v, e1, e2, rfl⟩
      have : bs = [] := by cases bs with | nil => rfl | cons c bs => cases e2
      subst this
      rw [List.append_nil] at e1
      subst e1
      have dv : ∀ t : Int, divC t (gs b ys) = true := fun t => divC_nat hgp (Nat.lt_of_le_of_lt hgl hn)
      simp
      refine ⟨_, _, ⟨rfl, rfl⟩, by simpa using hly, ?_⟩
      refine lc_mapA (f := PyData.int) (g := fun t => .int (t.fdiv (gs b ys))) (chk_one rfl) ?_ ?_
      · intro t ht
        simp [wipeL, dv]
      · simp [dv]
        have e : polyD (mk ts b) = .tuple [.tuple (ys.map fun t => PyData.int (t.fdiv (gs b ys))), .int ((b : Int).fdiv (gs b ys))] := by
          rw [← eq]
          unfold polyD mkT
          simp only [List.map_map]
          congr 3
          · refine List.map_congr_left fun t ht => ?_
            show PyData.int (t / (gs b ys : Nat)) = PyData.int (t.fdiv (gs b ys : Nat))
            rw [Int.fdiv_eq_ediv_of_nonneg _ (by omega)]
          · show PyData.int ((b / gs b ys : Nat) : Int) = PyData.int ((b : Int).fdiv (gs b ys : Nat))
            rw [Int.fdiv_eq_ediv_of_nonneg _ (by omega), Int.natCast_ediv]
        rw [e] at h
        exact h
  by_cases hn0 : n = 0
  · subst hn0
    have : us = [] := by rw [hus]; simp
    subst this
    simp at post ⊢
    exact post
  · have hlt : n - 1 < ts.length := by omega
    have e2 : (0 : Int) < n := by omega
    have e3 : idxN ts.length.succ (-1) = some ts.length := by rw [idx_end (by omega)]; rfl
    have gi : ts.getD (n - 1) 0 = ts[n - 1] := by simp [List.getD_eq_getElem?_getD, hlt]
    have hne : us ≠ [] := fun e => by rw [e] at hlen; simp at hlen; omega
    have gi3 : us[n - 1]? = some ts[n - 1] := by rw [hus, List.getElem?_take_of_lt (by omega), List.getElem?_eq_getElem hlt]
    by_cases hz : ts.getD (n - 1) 0 = 0
    · have hz' := hz
      rw [gi] at hz'
      simp [-List.getD_eq_getElem?_getD, hn0, hne, e2, hlen, idx_end (show 0 < n by omega), gi3, hz']
      refine ⟨by omega, n - 1, by omega, ?_, by omega, fun k hk => ?_⟩
      · have : us.dropLast = ts.take (n - 1) := by
          rw [List.dropLast_eq_take, hlen, hus, List.take_take]
          congr 1; omega
        rw [← List.map_take, ← this]; simp
      · by_cases e : k = n - 1
        · subst e; exact hz
        · exact h2 k (by omega)
    · have hz' := hz
      rw [gi] at hz'
      simp at post
      simp [hn0, hne, e2, hlen, idx_end (show 0 < n by omega), gi3, hz']
      exact ⟨by omega, post fun _ => by simpa using hz⟩
theorem all_int {p : Int → Prop} {ys : List PyData} (h : ∀ y, y ∈ ys → ∃ t, y = .int t ∧ p t) : ∃ ts : List Int, ys = ts.map .int ∧ ∀ t, t ∈ ts → p t := by
  induction ys with
  | nil => exact ⟨[], rfl, by simp⟩
  | cons y ys ih =>
    obtain ⟨q, rfl, hq⟩ := h y (by simp)
    obtain ⟨qs, rfl, hqs⟩ := ih fun z hz => h z (by simp [hz])
    refine ⟨q :: qs, rfl, fun r hr => ?_⟩
    rcases List.mem_cons.mp hr with rfl | hr
    · exact hq
    · exact hqs r hr
theorem great_poly_to {f : Fl} (hf : FlOk f) {most figs : Int} {m N n : Nat} (h0 : 0 ≤ figs) (h1 : figs ≤ N) (h3 : 3 ≤ N) (hN : N ≤ 60) (m0 : 0 ≤ most) (m1 : most + 1 ≤ m) (m2 : 3 ≤ m) (m3 : m ≤ 1000) (hn : 10 ^ N ≤ 2 ^ n) (hn2 : n ≤ 8000) : (m_L_great_poly [.int most, .int figs] f).To fun d f' => ∃ p, d = polyD p ∧ PBt n m p ∧ FlOk f' := by
  unfold m_L_great_poly
  rw [flow_to]
  unfold b_L_great_poly
  simp [startL]
  refine (pick_to hf (by omega) (by omega)).mono ?_
  rintro _ g1 ⟨i1, rfl, a1, a2, o1⟩
  refine (pick_to o1 (by omega) (by omega)).mono ?_
  rintro _ g2 ⟨i2, rfl, b1, b2, o2⟩
  refine (pick_to o2 (by omega) (by omega)).mono ?_
  rintro _ g3 ⟨i3, rfl, c1, c2, o3⟩
  refine ixl_to (p := fun x => ∃ j : Int, x = .int j ∧ 0 ≤ j ∧ j ≤ m) c1 c2 (by simp; omega) ?_
  rintro _ ⟨many, rfl, j0, j1⟩
  simp
  refine (pick_to o3 (by omega) (by omega)).mono ?_
  rintro _ g4 ⟨i4, rfl, d1, d2, o4⟩
  refine ixl_to (p := fun x => ∃ j : Int, x = .int j ∧ 0 ≤ j ∧ j ≤ N) d1 d2 (by simp; omega) ?_
  rintro _ ⟨figb, rfl, fb0, fb1⟩
  simp
  refine (great_to o4 fb0 fb1 h3 hN).mono ?_
  rintro _ g5 ⟨bt, rfl, bt1, o5⟩
  simp
  refine ⟨decide_eq_true (by omega), by omega, ?_⟩
  refine lc_draw (p := fun y => ∃ t, y = .int t ∧ t.natAbs < 10 ^ N) ?_ o5 ?_
  · intro x hx g og
    simp [wipeL]
    refine (pick_to og (by omega) (by omega)).mono ?_
    rintro _ g6 ⟨i6, rfl, k1, k2, o6⟩
    refine ixl_to (p := fun x => ∃ j : Int, x = .int j ∧ 0 ≤ j ∧ j ≤ N) k1 k2 (by simp; omega) ?_
    rintro _ ⟨figt, rfl, ft0, ft1⟩
    simp
    refine (great_to o6 ft0 ft1 h3 hN).mono ?_
    rintro _ g7 ⟨t, rfl, t1, o7⟩
    exact ⟨o7, t, rfl, t1⟩
  · intro ys g8 hl hy o8
    obtain ⟨ts, rfl, ht⟩ := all_int hy
    have hl' : ts.length = many.toNat := by simpa using hl
    simp
    obtain ⟨B, hB, hB0, hB1⟩ : ∃ B : Nat, (if bt < 0 then -bt else bt) + (if (if bt < 0 then -bt else bt) = 0 then 1 else 0) = (B : Int) ∧ 0 < B ∧ B < 10 ^ N := by
      have : 10 ^ 3 ≤ 10 ^ N := Nat.pow_le_pow_right (by omega) h3
      refine ⟨bt.natAbs + if bt = 0 then 1 else 0, ?_, ?_, ?_⟩
      · by_cases c1 : bt < 0
        · have c2 : ¬ bt = 0 := by omega
          have c3 : ¬ -bt = 0 := by omega
          simp only [c1, c2, c3, if_true, if_false]; omega
        · by_cases c2 : bt = 0
          · subst c2; rfl
          · simp only [c1, c2, if_false]; omega
      · split <;> omega
      · split <;> omega
    have hB2 : B < 2 ^ n := by omega
    rw [hB]
    refine L_poly_to (.inl rfl) hB0 (Nat.lt_of_lt_of_le hB2 (Nat.pow_le_pow_right (by omega) (by omega))) (by omega) ?_
    exact ⟨_, rfl, PBt.mk hB0 (by omega) hB2 fun t h => by have := ht t h; omega, o8⟩
end NW

namespace NW
open PySem PySem.Spec PyProof.Rows L2
/-! ### numbers as polynomials, powers, one put into the other, worked out -/
def Pol.one : Pol := ⟨[1], 1, by decide, by simp [Tr], rfl⟩
def Pol.zero : Pol := ⟨[], 1, by decide, trivial, rfl⟩
def Pol.X : Pol := ⟨[0, 1], 1, by decide, by simp [Tr], rfl⟩
theorem ev_one {x : Rat} : Pol.one.ev x = 1 := by simp [Pol.ev, Pol.one, evZ]; grind
theorem ev_zero {x : Rat} : Pol.zero.ev x = 0 := by simp [Pol.ev, Pol.zero, evZ]; grind
theorem ev_X {x : Rat} : Pol.X.ev x = x := by simp [Pol.ev, Pol.X, evZ]; grind
theorem PBt.one : PBt 1 1 Pol.one := ⟨by simp [Pol.one], by decide, by simp [Pol.one]⟩
theorem PBt.zero : PBt 1 1 Pol.zero := ⟨by simp [Pol.zero], by decide, by simp [Pol.zero]⟩
theorem PBt.X : PBt 1 2 Pol.X := ⟨by simp [Pol.X], by decide, by simp [Pol.X]⟩
def Pol.pw (p : Pol) : Nat → Pol
  | 0 => Pol.one
  | k + 1 => p.pw k * p
theorem ev_pw {p : Pol} {x : Rat} : ∀ {k : Nat}, (p.pw k).ev x = p.ev x ^ k
  | 0 => by rw [Pol.pw, ev_one]; grind
  | k + 1 => by rw [Pol.pw, ev_mul, ev_pw]; grind
theorem PBt.pw {n m : Nat} {p : Pol} (h : PBt n m p) : ∀ {k : Nat}, k * m + 1 ≤ 1000 → PBt (k * (n + 10) + 1) (k * m + 1) (p.pw k)
  | 0, _ => PBt.one.mono (by omega) (by omega)
  | k + 1, hk => by
    have e : (k + 1) * m = k * m + m := by rw [Nat.add_mul, Nat.one_mul]
    have e2 : (k + 1) * (n + 10) = k * (n + 10) + (n + 10) := by rw [Nat.add_mul, Nat.one_mul]
    exact ((PBt.pw h (k := k) (by omega)).mul h (by omega)).mono (by omega) (by omega)
theorem power_to {p : Pol} {n m k : Nat} {P : PyData → Prop} (hp : PBt n m p) (hk : k * m + 1 + m ≤ 1000) (hn : k * (n + 10) + 1 + n ≤ 4400) (h : P (polyD (p.pw k))) : (m_power [polyD p, .int k]).To P := by
  unfold m_power
  rw [pure_to]
  unfold b_power
  simp [startL]
  refine ⟨decide_eq_true (by have : k ≤ 4400 := by rcases Nat.eq_zero_or_pos k with h | h; omega; have := Nat.le_mul_of_pos_right k (show 0 < n + 10 by omega); omega
                             omega), ?_⟩
  rw [range_map]
  obtain ⟨I, hI⟩ : ∃ I : Nat → NW.Loc → Sto → Prop, ∀ j l s, I j l s ↔ j ≤ k ∧ ∃ (v : Option U), l = [some (.d (polyD p)), some (.d (.int k)), some (.d (polyD (p.pw j))), v] ∧ s = ⟨none, []⟩ := ⟨_, fun _ _ _ => Iff.rfl⟩
  refine for_ix I (fun _ _ _ _ => chk_nil) ((hI _ _ _).mpr ⟨by omega, none, rfl, rfl⟩) ?_ ?_
  · rintro j x l s hx h
    obtain ⟨hj, v, rfl, rfl⟩ := (hI _ _ _).mp h
    have hx' := (List.getElem?_eq_some_iff.mp hx).1
    simp at hx'
    have e1 : j * m ≤ k * m := Nat.mul_le_mul_right _ hj
    have e2 : j * (n + 10) ≤ k * (n + 10) := Nat.mul_le_mul_right _ hj
    simp
    refine times_to (n := k * (n + 10) + 1 + n) (m := k * m + 1 + m) ((hp.pw (by omega)).mono (by omega) (by omega)) (hp.mono (by omega) (by omega)) (by omega) (by omega) hn ?_
    exact (hI _ _ _).mpr ⟨by omega, _, rfl, rfl⟩
  · intro l s h'
    obtain ⟨hj, v, rfl, rfl⟩ := (hI _ _ _).mp h'
    simp at hj ⊢
    exact h
/-! one put into the other -/
def hz (b : Nat) (g : Pol) : List Int → Pol
  | [] => Pol.zero
  | t :: ts => hz b g ts * g + mk [t] b
def Pol.comp (f g : Pol) : Pol := hz f.b g f.ts
theorem ev_hz {b : Nat} (hb : 0 < b) {g : Pol} {x : Rat} : ∀ {ts : List Int}, (hz b g ts).ev x = evZ ts (g.ev x) / (b : Int)
  | [] => by rw [hz, ev_zero]; simp [evZ]; grind
  | t :: ts => by
    have hb' : (((b : Int)) : Rat) ≠ 0 := by
      intro e; have := Rat.intCast_eq_zero_iff.mp e; omega
    rw [hz, ev_add, ev_mul, ev_hz hb, ev_mk hb]
    simp only [evZ]
    grind
theorem ev_comp {f g : Pol} {x : Rat} : (f.comp g).ev x = f.ev (g.ev x) := by
  unfold Pol.comp
  rw [ev_hz f.hb]; rfl
theorem hz_sz {b n n2 m : Nat} {g : Pol} (hb : 0 < b) (hbn : b < 2 ^ n) (hg : PBt n2 m g) : ∀ {ts : List Int}, (∀ t, t ∈ ts → t.natAbs < 2 ^ n) → ts.length * m + 1 ≤ 1000 → PBt (ts.length * (n + n2 + 11) + 1) (ts.length * m + 1) (hz b g ts)
  | [], _, _ => by simpa [hz] using PBt.zero
  | t :: ts, ht, hl => by
    rw [List.length_cons] at hl ⊢
    have e : (ts.length + 1) * m = ts.length * m + m := by rw [Nat.add_mul, Nat.one_mul]
    have e2 : (ts.length + 1) * (n + n2 + 11) = ts.length * (n + n2 + 11) + (n + n2 + 11) := by rw [Nat.add_mul, Nat.one_mul]
    have ih := hz_sz hb hbn hg (ts := ts) (fun u hu => ht u (by simp [hu])) (by omega)
    have h1 := ih.mul hg (by omega)
    have h2 : PBt n (ts.length * m + 1 + m) (mk [t] b) := PBt.mk hb (by simp; omega) hbn (by simpa using ht t (by simp))
    exact (h1.add h2).mono (by omega) (by omega)
theorem PBt.comp {n n2 m1 m : Nat} {f g : Pol} (hf : PBt n m1 f) (hg : PBt n2 m g) (hl : m1 * m + 1 ≤ 1000) : PBt (m1 * (n + n2 + 11) + 1) (m1 * m + 1) (f.comp g) := by
  have h1 : f.ts.length * m ≤ m1 * m := Nat.mul_le_mul_right _ hf.1
  have h2 : f.ts.length * (n + n2 + 11) ≤ m1 * (n + n2 + 11) := Nat.mul_le_mul_right _ hf.1
  exact (hz_sz f.hb hf.2.1 hg hf.2.2 (by omega)).mono (by omega) (by omega)
theorem rev_get {α : Type} {xs : List α} {k : Nat} {x : α} (h : xs.reverse[k]? = some x) : ∃ as bs, xs = as ++ x :: bs ∧ bs.length = k := by
  have hk : k < xs.length := by simpa using (List.getElem?_eq_some_iff.mp h).1
  rw [List.getElem?_reverse hk] at h
  refine ⟨xs.take (xs.length - 1 - k), xs.drop (xs.length - 1 - k + 1), ?_, by simp; omega⟩
  have h1 : xs.length - 1 - k < xs.length := by omega
  rw [List.getElem?_eq_getElem h1] at h
  cases h
  rw [List.getElem_cons_drop, List.take_append_drop]
/-- a loop backward over whole numbers, the invariant told of what stands behind -/
theorem for_rev {d : ItD} {t : MT} {b : MS} {N : Loc → Sto → Prop} {R : U → Sto → Prop} (I : List Int → Loc → Sto → Prop) {ts : List Int} {l : Loc} {st : Sto} (hk : ∀ us l st, I us l st → d.chk st) (start : I [] l st)
    (step : ∀ as u us l st, ts = as ++ u :: us → I us l st → (t (.d (.int u)) l st).To fun l s => (b l s).To (I (u :: us)) R) (fin : ∀ l st, I ts l st → N l st) : (forM d t b (ts.map PyData.int).reverse l st).To N R := by
  refine for_ix (fun k l s => ∃ as us, ts = as ++ us ∧ us.length = k ∧ I us l s) (fun k l s h => by obtain ⟨_, _, _, _, h⟩ := h; exact hk _ _ _ h) ⟨ts, [], by simp, rfl, start⟩ ?_ ?_
  · rintro k x l s hx ⟨as, us, e, rfl, h⟩
    rw [← List.map_reverse, List.getElem?_map] at hx
    cases e2 : ts.reverse[us.length]? with
    | none => rw [e2] at hx; cases hx
    | some u =>
      rw [e2] at hx; cases hx
      obtain ⟨as', bs, e3, e4⟩ := rev_get e2
      have : as' ++ u :: bs = (as' ++ [u]) ++ bs := by simp
      have e5 : (as' ++ [u]) ++ bs = as ++ us := by rw [← this, ← e3, e]
      obtain ⟨_, e6⟩ := List.append_inj' e5 e4
      subst e6
      refine (step as' u bs l s e3 h).mono ?_
      intro l1 s1 h1
      exact h1.mono (fun l2 s2 h2 => ⟨as', u :: bs, e3, rfl, h2⟩) (fun _ _ z => z)
  · rintro l s ⟨as, us, e, hl, h⟩
    have : as = [] := by
      have := congrArg List.length e
      simp at this hl
      exact List.eq_nil_of_length_eq_zero (by omega)
    subst this
    have e' : ts = us := e
    subst e'
    exact fin _ _ h
theorem put_to {f g : Pol} {n n2 m1 m : Nat} {P : PyData → Prop} (hf : PBt n m1 f) (hg : PBt n2 m g) (hl : (m1 + 1) * m + 1 ≤ 1000) (hn : (m1 + 1) * (n + n2 + 11) + 1 ≤ 8999) (h : P (polyD (f.comp g))) : (m_put [polyD f, polyD g]).To P := by
  unfold m_put
  rw [pure_to]
  unfold b_put
  have hfl := hf.1
  have hfb := f.hb
  have hb9 : f.b < 2 ^ 8999 := Nat.lt_of_lt_of_le hf.2.1 (Nat.pow_le_pow_right (by omega) (by
    have := Nat.le_mul_of_pos_left (n + n2 + 11) (show 0 < m1 + 1 by omega); omega))
  simp [startL]
  refine ⟨_, _, ⟨rfl, rfl⟩, ?_⟩
  obtain ⟨I, hI⟩ : ∃ I : List Int → NW.Loc → Sto → Prop, ∀ us l s, I us l s ↔ ∃ (v : Option U), l = [some (.d (polyD f)), some (.d (polyD g)), some (.d (polyD (hz f.b g us))), v] ∧ s = ⟨none, []⟩ := ⟨_, fun _ _ _ => Iff.rfl⟩
  refine for_rev I (fun _ _ _ _ => chk_nil) ((hI _ _ _).mpr ⟨none, rfl, rfl⟩) ?_ ?_
  · rintro as u us l s e h
    obtain ⟨v, rfl, rfl⟩ := (hI _ _ _).mp h
    have hul : us.length + 1 ≤ m1 := by
      have := congrArg List.length e
      simp at this; omega
    have ht : ∀ t, t ∈ us → t.natAbs < 2 ^ n := fun t ht => hf.2.2 t (by rw [e]; simp [ht])
    have hu := hf.2.2 u (by rw [e]; simp)
    have e1 : us.length * m ≤ m1 * m := Nat.mul_le_mul_right _ (by omega)
    have e2 : (us.length + 1) * (n + n2 + 11) ≤ m1 * (n + n2 + 11) := Nat.mul_le_mul_right _ (by omega)
    have e3 : (us.length + 1) * (n + n2 + 11) = us.length * (n + n2 + 11) + (n + n2 + 11) := by rw [Nat.add_mul, Nat.one_mul]
    have e4 : (m1 + 1) * (n + n2 + 11) = m1 * (n + n2 + 11) + (n + n2 + 11) := by rw [Nat.add_mul, Nat.one_mul]
    have e5 : (m1 + 1) * m = m1 * m + m := by rw [Nat.add_mul, Nat.one_mul]
    have sz := hz_sz f.hb hf.2.1 hg ht (by omega)
    simp
    refine timesx sz hg (by omega) (by omega) (by omega) ?_
    refine over_to (ts := [u]) (.inl rfl) f.hb hb9 (by simp) ?_
    have s2 : PBt n 1 (mk [u] f.b) := PBt.mk f.hb (by simp) hf.2.1 (by simpa using hu)
    have s3 := sz.mul hg (by omega)
    refine plusx (m := m1 * m + m + 1) (s3.mono (Nat.le_refl _) (by omega)) (s2.mono (Nat.le_refl _) (by omega)) (by omega) (by omega) ?_
    exact (hI _ _ _).mpr ⟨_, rfl, rfl⟩
  · intro l s h'
    obtain ⟨v, rfl, rfl⟩ := (hI _ _ _).mp h'
    simp
    exact h
/-! worked out at a fraction -/
theorem evZ_rep {r : Rat} {n b : Nat} (hr : FB b r) : ∀ {ts : List Int}, (∀ t, t ∈ ts → t.natAbs < 2 ^ n) → ∃ T : Int, evZ ts r = Rat.divInt T ((r.den ^ ts.length : Nat) : Int) ∧ T.natAbs < 2 ^ (n + ts.length * (b + 1))
  | [], _ => ⟨0, by simp [evZ], by simp [Nat.two_pow_pos]⟩
  | t :: ts, ht => by
    obtain ⟨T, e, hT⟩ := evZ_rep hr (ts := ts) fun u hu => ht u (by simp [hu])
    have hd := r.den_pos
    have hd' : ((r.den : Int)) ≠ 0 := by omega
    have hdk : ((r.den ^ ts.length : Nat) : Int) ≠ 0 := by have := Nat.pow_pos (n := ts.length) hd; omega
    refine ⟨t * (r.den ^ (ts.length + 1) : Nat) + r.num * T, ?_, ?_⟩
    · have er : r * Rat.divInt T ((r.den ^ ts.length : Nat) : Int) = Rat.divInt (r.num * T) ((r.den : Int) * ((r.den ^ ts.length : Nat) : Int)) := by
        rw [← Rat.divInt_mul_divInt, Rat.num_divInt_den]
      rw [evZ, e, er, List.length_cons, show (t : Rat) = Rat.divInt t 1 by rw [divInt_div]; simp; grind, Rat.divInt_add_divInt _ _ (by decide) (Int.mul_ne_zero hd' hdk)]
      have e2 : ((r.den ^ (ts.length + 1) : Nat) : Int) = (r.den : Int) * ((r.den ^ ts.length : Nat) : Int) := by rw [Nat.pow_succ, Nat.mul_comm, Int.natCast_mul]
      rw [e2, Int.one_mul, Int.mul_one]
    · have h1 : (t * (r.den ^ (ts.length + 1) : Nat)).natAbs < 2 ^ (n + (b * (ts.length + 1))) := by
        rw [Int.natAbs_mul, Int.natAbs_natCast, Nat.pow_add 2, Nat.pow_mul]
        exact Nat.mul_lt_mul'' (ht t (by simp)) (Nat.pow_lt_pow_left hr.2 (by omega))
      have h2 : (r.num * T).natAbs < 2 ^ (b + (n + ts.length * (b + 1))) := by
        rw [Int.natAbs_mul, Nat.pow_add]
        exact Nat.mul_lt_mul'' hr.1 hT
      have e1 : ts.length * (b + 1) = b * ts.length + ts.length := by rw [Nat.mul_add, Nat.mul_comm]; omega
      have e2 : b * (ts.length + 1) = b * ts.length + b := by rw [Nat.mul_add]; omega
      have e3 : (ts.length + 1) * (b + 1) = b * ts.length + ts.length + b + 1 := by rw [Nat.add_mul, e1]; omega
      rw [List.length_cons, e3]
      have h3 : 2 ^ (n + (b * (ts.length + 1))) ≤ 2 ^ (n + b * ts.length + ts.length + b) := Nat.pow_le_pow_right (by omega) (by omega)
      have h4 : 2 ^ (b + (n + ts.length * (b + 1))) ≤ 2 ^ (n + b * ts.length + ts.length + b) := Nat.pow_le_pow_right (by omega) (by omega)
      have h5 : 2 ^ (n + (b * ts.length + ts.length + b + 1)) = 2 * 2 ^ (n + b * ts.length + ts.length + b) := by
        rw [show n + (b * ts.length + ts.length + b + 1) = (n + b * ts.length + ts.length + b) + 1 by omega, Nat.pow_succ, Nat.mul_comm]
      have h6 := Int.natAbs_add_le (t * (r.den ^ (ts.length + 1) : Nat)) (r.num * T)
      omega
theorem evZ_FB {r : Rat} {n b : Nat} (h0 : 0 < n) (hr : FB b r) {ts : List Int} (ht : ∀ t, t ∈ ts → t.natAbs < 2 ^ n) : FB (n + ts.length * (b + 1)) (evZ ts r) := by
  obtain ⟨T, e, hT⟩ := evZ_rep hr ht
  rw [e]
  refine FB.of_divInt ?_ hT ?_
  · have := Nat.pow_pos (n := ts.length) r.den_pos; omega
  · rw [Int.natAbs_natCast]
    refine Nat.lt_of_lt_of_le (m := 2 ^ (b * ts.length) + 1) ?_ ?_
    · rw [Nat.pow_mul]
      have := Nat.pow_le_pow_left (Nat.le_of_lt hr.2) ts.length
      omega
    · have e1 : ts.length * (b + 1) = b * ts.length + ts.length := by rw [Nat.mul_add, Nat.mul_comm]; omega
      rw [e1]
      have : 2 ^ (b * ts.length + 1) ≤ 2 ^ (n + (b * ts.length + ts.length)) := Nat.pow_le_pow_right (by omega) (by omega)
      have h2 : 2 ^ (b * ts.length + 1) = 2 * 2 ^ (b * ts.length) := by rw [Nat.pow_succ, Nat.mul_comm]
      have := Nat.two_pow_pos (b * ts.length)
      omega
theorem FB.mul2 {p q : Rat} {a b : Nat} (hp : FB a p) (hq : FB b q) : FB (a + b) (p * q) := by
  rw [← mul_divInt]
  exact FB.of_divInt (Int.mul_ne_zero (den_ne p) (den_ne q)) (by rw [Int.natAbs_mul, Nat.pow_add]; exact Nat.mul_lt_mul'' hp.1 hq.1) (by rw [Int.natAbs_mul, Nat.pow_add]; exact Nat.mul_lt_mul'' hp.2 hq.2)
theorem FB.div2 {p q : Rat} {a b : Nat} (hp : FB a p) (hq : FB b q) (hz : q ≠ 0) : FB (a + b) (p / q) := by
  have hz' : q.num ≠ 0 := fun e => hz (Rat.num_eq_zero.mp e)
  rw [← div_divInt]
  exact FB.of_divInt (Int.mul_ne_zero (den_ne p) hz') (by rw [Int.natAbs_mul, Nat.pow_add]; exact Nat.mul_lt_mul'' hp.1 hq.2) (by rw [Int.natAbs_mul, Nat.pow_add]; exact Nat.mul_lt_mul'' hp.2 hq.1)
theorem FB.add2 {p q : Rat} {a b : Nat} (hp : FB a p) (hq : FB b q) : FB (a + b + 1) (p + q) := by
  rw [← add_divInt]
  have hpw : 2 ^ (a + b + 1) = 2 ^ a * 2 ^ b + 2 ^ a * 2 ^ b := by rw [Nat.pow_succ, Nat.pow_add]; omega
  have e1 : (p.num * q.den).natAbs < 2 ^ a * 2 ^ b := by rw [Int.natAbs_mul]; exact Nat.mul_lt_mul'' hp.1 hq.2
  have e2 : (q.num * p.den).natAbs < 2 ^ a * 2 ^ b := by rw [Int.natAbs_mul, Nat.mul_comm]; exact Nat.mul_lt_mul'' hp.2 hq.1
  have e3 : ((p.den : Int) * q.den).natAbs < 2 ^ a * 2 ^ b := by rw [Int.natAbs_mul]; exact Nat.mul_lt_mul'' hp.2 hq.2
  refine FB.of_divInt (Int.mul_ne_zero (den_ne p) (den_ne q)) ?_ (by omega)
  omega
theorem FB.sub2 {p q : Rat} {a b : Nat} (hp : FB a p) (hq : FB b q) : FB (a + b + 1) (p - q) := by
  rw [Rat.sub_eq_add_neg]; exact hp.add2 hq.neg
theorem FB.int {n : Nat} {t : Int} (h : t.natAbs < 2 ^ n) (h0 : 0 < n) : FB n (t : Rat) := ⟨h, by have : 2 ≤ 2 ^ n := Nat.le_self_pow (by omega) 2; show 1 < 2 ^ n; omega⟩
theorem fracD_int {t : Int} : PyData.tuple [.int t, .int 1] = fracD (t : Rat) := rfl
theorem value_to {p : Pol} {r : Rat} {n m b : Nat} {P : PyData → Prop} (hp : PBt n m p) (hr : FB b r) (h0 : 0 < n) (hn : 2 * n + m * (b + 1) + b ≤ 8999) (h : P (fracD (p.ev r))) : (m_value [polyD p, fracD r]).To P := by
  unfold m_value
  rw [pure_to]
  unfold b_value
  have hpl := hp.1
  have hb9 : p.b < 2 ^ 8999 := Nat.lt_of_lt_of_le hp.2.1 (Nat.pow_le_pow_right (by omega) (by omega))
  have hpb := p.hb
  simp [startL]
  refine ⟨_, _, ⟨rfl, rfl⟩, ?_⟩
  obtain ⟨I, hI⟩ : ∃ I : List Int → NW.Loc → Sto → Prop, ∀ us l s, I us l s ↔ ∃ (v : Option U), l = [some (.d (polyD p)), some (.d (fracD r)), some (.d (fracD (evZ us r))), v] ∧ s = ⟨none, []⟩ := ⟨_, fun _ _ _ => Iff.rfl⟩
  refine for_rev I (fun _ _ _ _ => chk_nil) ((hI _ _ _).mpr ⟨none, rfl, rfl⟩) ?_ ?_
  · rintro as u us l s e h
    obtain ⟨v, rfl, rfl⟩ := (hI _ _ _).mp h
    have hul : us.length + 1 ≤ m := by
      have := congrArg List.length e
      simp at this; omega
    have hu := hp.2.2 u (by rw [e]; simp)
    have e1 : (us.length) * (b + 1) ≤ m * (b + 1) := Nat.mul_le_mul_right _ (by omega)
    have sz := evZ_FB h0 hr (ts := us) (n := n) fun t ht => hp.2.2 t (by rw [e]; simp [ht])
    simp
    refine multipliedx sz hr (by omega) ?_
    rw [fracD_int]
    refine addedx (sz.mul2 hr) (FB.int hu h0) (by omega) ?_
    rw [show evZ us r * r + (u : Rat) = evZ (u :: us) r by rw [evZ]; grind]
    exact (hI _ _ _).mpr ⟨_, rfl, rfl⟩
  · intro l s h'
    obtain ⟨v, rfl, rfl⟩ := (hI _ _ _).mp h'
    simp
    have e1 : p.ts.length * (b + 1) ≤ m * (b + 1) := Nat.mul_le_mul_right _ hpl
    have sz := evZ_FB h0 hr (ts := p.ts) (n := n) hp.2.2
    have e2 : 2 ≤ 2 ^ n := Nat.le_self_pow (by omega) 2
    refine fraction_to (by omega) (by simpa using hb9) ?_
    refine multipliedx (b' := n) sz (FB.of_divInt (by omega) ?_ ?_) (by omega) ?_
    · show 1 < _; omega
    · rw [Int.natAbs_natCast]; exact hp.2.1
    · have e3 : evZ p.ts r * Rat.divInt 1 p.b = p.ev r := by
        unfold Pol.ev
        rw [divInt_div]
        have := p.bne
        grind
      rw [e3]; exact h
theorem ev_FB {p : Pol} {r : Rat} {n m b : Nat} (hp : PBt n m p) (hr : FB b r) (h0 : 0 < n) : FB (n + m * (b + 1) + n) (p.ev r) := by
  have e1 : p.ts.length * (b + 1) ≤ m * (b + 1) := Nat.mul_le_mul_right _ hp.1
  have sz := evZ_FB h0 hr (ts := p.ts) (n := n) hp.2.2
  have e3 : p.ev r = evZ p.ts r * Rat.divInt 1 p.b := by
    unfold Pol.ev
    rw [divInt_div]
    have := p.bne
    grind
  rw [e3]
  have e2 : 2 ≤ 2 ^ n := Nat.le_self_pow (by omega) 2
  have hpb := p.hb
  have : FB n (Rat.divInt 1 p.b) := FB.of_divInt (by omega) (by show 1 < _; omega) (by simpa using hp.2.1)
  exact (sz.mul2 this).mono (by omega)
end NW

namespace NW
open PySem PySem.Spec PyProof.Rows L2
/-! ### less, alike, and what the laws say -/
instance : Sub Pol := ⟨fun p q => p + q.sc (-1)⟩
theorem ev_sub {p q : Pol} {x : Rat} : (p - q).ev x = p.ev x - q.ev x := by
  show (p + q.sc (-1)).ev x = _
  rw [ev_add, ev_sc]; grind
theorem co_sub {p q : Pol} {k : Nat} : (p - q).co k = p.co k - q.co k := by
  show (p + q.sc (-1)).co k = _
  rw [co_add, co_sc]; grind
theorem FB_m1 : FB 1 (-1) := ⟨by decide, by decide⟩
theorem PBt.sub {n1 n2 m : Nat} {p q : Pol} (hp : PBt n1 m p) (hq : PBt n2 m q) : PBt (n1 + n2 + 2) m (p - q) := (hp.add (hq.sc FB_m1)).mono (by omega) (by omega)
theorem fracD_m1 : PyData.tuple [.int (-1), .int 1] = fracD (-1) := rfl
theorem fracD_0 : PyData.tuple [.int 0, .int 1] = fracD 0 := rfl
theorem fracD_1 : PyData.tuple [.int 1, .int 1] = fracD 1 := rfl
theorem minus_to {p q : Pol} {n m : Nat} {P : PyData → Prop} (hp : PBt n m p) (hq : PBt n m q) (hm : m ≤ 1000) (h0 : 0 < n) (hn : n + 1 ≤ 4400) (h : P (polyD (p - q))) : (m_minus [polyD p, polyD q]).To P := by
  unfold m_minus
  rw [pure_to]
  unfold b_minus
  simp [startL]
  rw [fracD_m1]
  refine scaled_to hq (FB_m1.mono (by omega)) hm h0 (by omega) ?_
  refine plus_to (n := n + 1) (hp.mono (by omega) (by omega)) ((hq.sc FB_m1).mono (by omega) (by omega)) hm (by omega) hn ?_
  exact h
theorem minusx {p q : Pol} {n n2 m : Nat} {P : PyData → Prop} (hp : PBt n m p) (hq : PBt n2 m q) (hm : m ≤ 1000) (hn : n + n2 + 1 ≤ 8999) (h : P (polyD (p - q))) : (m_minus [polyD p, polyD q]).To P := by
  unfold m_minus
  rw [pure_to]
  unfold b_minus
  simp [startL]
  rw [fracD_m1]
  refine scaledx hq FB_m1 hm (by omega) ?_
  refine plusx hp (hq.sc FB_m1) hm (by omega) ?_
  exact h
theorem alike_poly {p q : Pol} (h : p = q) (hl : p.ts.length ≤ 1000) : (m_L_alike 8 [polyD p, polyD q]).To fun d => d = .bool true := by
  subst h; exact alike_to 8 _ (lk_poly (n := 5) hl)
theorem alike_frac {p q : Rat} (h : p = q) : (m_L_alike 8 [fracD p, fracD q]).To fun d => d = .bool true := by
  subst h; exact alike_to 8 _ (lk_frac (n := 6))
theorem polyD_zero : PyData.tuple [.tuple [], .int 1] = polyD Pol.zero := rfl
theorem polyD_one : PyData.tuple [.tuple [.int 1], .int 1] = polyD Pol.one := rfl
theorem polyD_X : PyData.tuple [.tuple [.int 0, .int 1], .int 1] = polyD Pol.X := rfl
theorem ten40 : 10 ^ 40 ≤ 2 ^ 133 := by decide +kernel
theorem co_zero_of {p : Pol} {k : Nat} (h : p.ts.length ≤ k) : p.co k = 0 := by
  unfold Pol.co
  rw [List.getD_eq_getElem?_getD, List.getElem?_eq_none h]; simp
@[simp] theorem ex_src {α β : Type} {A : α} {B : β} {C : α → β → Prop} : (∃ xs own, (A = xs ∧ own = B) ∧ C xs own) ↔ C A B := ⟨fun ⟨_, _, ⟨rfl, rfl⟩, h⟩ => h, fun h => ⟨_, _, ⟨rfl, rfl⟩, h⟩⟩
theorem cutD_ints {ts : List Int} {a b : Option Int} : ∃ us : List Int, cutD (ts.map PyData.int) a b = us.map .int ∧ (∀ u, u ∈ us → u ∈ ts) ∧ us.length ≤ ts.length := by
  unfold cutD
  exact ⟨_, by rw [← List.map_drop, ← List.map_take], fun u hu => List.mem_of_mem_drop (List.mem_of_mem_take hu), by simp; omega⟩
theorem L_at_to {p : Pol} {k : Nat} {P : PyData → Prop} (h : P (.tuple [.int (p.ts.getD k 0), .int (if k < p.ts.length then p.b else 1)])) : (m_L_at [polyD p, .int k]).To P := by
  unfold m_L_at
  rw [pure_to]
  unfold b_L_at
  by_cases hk : k < p.ts.length
  · have e : p.ts.getD k 0 = p.ts[k] := by simp [List.getD_eq_getElem?_getD, hk]
    rw [e, if_pos hk] at h
    have hk2 : ¬ p.ts.length ≤ k := by omega
    simp [startL, hk, hk2, idxN_nat hk]
    exact h
  · have e : p.ts.getD k 0 = 0 := by simp [List.getD_eq_getElem?_getD, List.getElem?_eq_none (show p.ts.length ≤ k by omega)]
    rw [e, if_neg hk] at h
    have hk2 : p.ts.length ≤ k := by omega
    simp [startL, hk, hk2]
    exact h
end NW

namespace NW
open PySem PySem.Spec PyProof.Rows L2
/-! ### the fractions of a product -/
def smI : Nat → (Nat → Int) → Int
  | 0, _ => 0
  | n + 1, f => smI n f + f n
def sm : Nat → (Nat → Rat) → Rat
  | 0, _ => 0
  | n + 1, f => sm n f + f n
theorem smI_succ {f : Nat → Int} : ∀ {n : Nat}, smI (n + 1) f = f 0 + smI n fun k => f (k + 1)
  | 0 => by simp [smI]
  | n + 1 => by rw [smI, smI_succ, smI]; omega
theorem sm_succ {f : Nat → Rat} : ∀ {n : Nat}, sm (n + 1) f = f 0 + sm n fun k => f (k + 1)
  | 0 => by simp [sm]; grind
  | n + 1 => by rw [sm, sm_succ, sm]; grind
theorem smI_cast {f : Nat → Int} : ∀ {n : Nat}, ((smI n f : Int) : Rat) = sm n fun k => (f k : Rat)
  | 0 => by simp [smI, sm]
  | n + 1 => by rw [smI, sm, Rat.intCast_add, smI_cast]
theorem sm_mul {c : Rat} {f : Nat → Rat} : ∀ {n : Nat}, sm n (fun k => c * f k) = c * sm n f
  | 0 => by simp [sm]
  | n + 1 => by rw [sm, sm_mul, sm]; grind
theorem sm_congr {f g : Nat → Rat} : ∀ {n : Nat}, (∀ k, k < n → f k = g k) → sm n f = sm n g
  | 0, _ => rfl
  | n + 1, h => by rw [sm, sm, sm_congr fun k hk => h k (by omega), h n (by omega)]
theorem sm_zero {f : Nat → Rat} {n : Nat} (h : ∀ k, k < n → f k = 0) : sm n f = 0 := by
  induction n with
  | zero => rfl
  | succ n ih => rw [sm, ih fun k hk => h k (by omega), h n (by omega)]; grind
theorem smI_zero {f : Nat → Int} {n : Nat} (h : ∀ k, k < n → f k = 0) : smI n f = 0 := by
  induction n with
  | zero => rfl
  | succ n ih => rw [smI, ih fun k hk => h k (by omega), h n (by omega)]; rfl
theorem sm_add {f g : Nat → Rat} : ∀ {n : Nat}, sm n (fun k => f k + g k) = sm n f + sm n g
  | 0 => by simp [sm]; grind
  | n + 1 => by rw [sm, sm, sm, sm_add]; grind
theorem addZ_get : ∀ {ts us : List Int} {k : Nat}, (addZ ts us).getD k 0 = ts.getD k 0 + us.getD k 0
  | [], us, k => by simp [addZ]
  | t :: ts, [], k => by simp [addZ]
  | t :: ts, u :: us, 0 => by simp [addZ]
  | t :: ts, u :: us, k + 1 => by
    have := addZ_get (ts := ts) (us := us) (k := k)
    simpa [addZ] using this
theorem mulZ_get : ∀ {ts us : List Int} {k : Nat}, (mulZ ts us).getD k 0 = smI (k + 1) fun j => ts.getD j 0 * us.getD (k - j) 0
  | [], us, k => by rw [mulZ, smI_zero fun j _ => by simp]; simp
  | t :: ts, us, 0 => by rw [mulZ, addZ_get, getD_map (by simp)]; simp [smI]
  | t :: ts, us, k + 1 => by
    rw [mulZ, addZ_get, getD_map (by simp), List.getD_cons_succ, mulZ_get]
    conv => rhs; rw [smI_succ]
    simp only [List.getD_cons_zero, List.getD_cons_succ, Nat.sub_zero, Nat.add_sub_add_right]
theorem co_mul {p q : Pol} {k : Nat} : (p * q).co k = sm (k + 1) fun j => p.co j * q.co (k - j) := by
  show (mk (mulZ p.ts q.ts) (p.b * q.b)).co k = _
  have a := p.bne
  have b := q.bne
  rw [co_mk (Nat.mul_pos p.hb q.hb), mulZ_get, divInt_div, smI_cast, Int.natCast_mul, Rat.intCast_mul]
  have : ∀ x : Rat, x / (((p.b : Int) : Rat) * ((q.b : Int) : Rat)) = (1 / (((p.b : Int) : Rat) * ((q.b : Int) : Rat))) * x := fun x => by grind
  rw [this, ← sm_mul]
  refine sm_congr fun j _ => ?_
  unfold Pol.co
  rw [divInt_div, divInt_div, Rat.intCast_mul]
  grind
theorem len_le {p : Pol} {m : Nat} (h : ∀ k, m ≤ k → p.co k = 0) : p.ts.length ≤ m := by
  by_cases hl : p.ts.length ≤ m
  · exact hl
  · exfalso
    have hn : p.ts ≠ [] := fun e => by rw [e] at hl; simp at hl
    have hb := p.hb
    have e := h (p.ts.length - 1) (by omega)
    unfold Pol.co at e
    have e2 : Rat.divInt (p.ts.getD (p.ts.length - 1) 0) p.b = Rat.divInt 0 1 := by rw [e, Rat.zero_divInt]
    have := (Rat.divInt_eq_divInt_iff (by omega) (by omega)).mp e2
    exact tr_get p.ht hn (by omega)
theorem co_lead {p : Pol} (h : p.ts ≠ []) : p.co (p.ts.length - 1) ≠ 0 := by
  have hb := p.hb
  intro e
  unfold Pol.co at e
  have e2 : Rat.divInt (p.ts.getD (p.ts.length - 1) 0) p.b = Rat.divInt 0 1 := by rw [e, Rat.zero_divInt]
  have := (Rat.divInt_eq_divInt_iff (by omega) (by omega)).mp e2
  exact tr_get p.ht h (by omega)
theorem mul_len {p q : Pol} : (p * q).ts.length ≤ p.ts.length + q.ts.length - 1 := len_le fun k hk => by
  rw [co_mul]
  refine sm_zero fun j hj => ?_
  by_cases h : p.ts.length ≤ j
  · rw [co_zero_of h]; simp
  · rw [co_zero_of (p := q) (k := k - j) (by omega)]; simp
theorem pw_len {p : Pol} : ∀ {k : Nat}, (p.pw k).ts.length ≤ k * (p.ts.length - 1) + 1
  | 0 => by simp [Pol.pw, Pol.one]
  | k + 1 => by
    rw [Pol.pw, Nat.add_mul, Nat.one_mul]
    have := mul_len (p := p.pw k) (q := p)
    have := pw_len (p := p) (k := k)
    omega
end NW

namespace NW
open PySem PySem.Spec PyProof.Rows L2
/-! ### the laws' own sums, products, one put into the other -/
theorem L_timesx {p q : Pol} {n n2 m m2 : Nat} {P : PyData → Prop} (hp : PBt n m p) (hq : PBt n2 m2 q) (hm : m ≤ 1000) (hm2 : m2 ≤ 1000) (hn : n + n2 ≤ 8999) (hP : P (polyD (p * q))) : (m_L_times [polyD p, polyD q]).To P := by
  unfold m_L_times
  rw [pure_to]
  unfold b_L_times
  have hpl := hp.1
  have hql := hq.1
  simp [startL]
  generalize hM : p.ts.length + q.ts.length = M
  have eM : (p.ts.length : Int) + q.ts.length = (M : Int) := by omega
  rw [eM]
  refine ⟨by omega, ?_⟩
  obtain ⟨I, hI⟩ : ∃ I : Nat → NW.Loc → Sto → Prop, ∀ k l s, I k l s ↔ ∃ (L : List Int) (v w a b : Option U), l = [some (.d (polyD p)), some (.d (polyD q)), some (.ref 0), v, w, a, b] ∧ s = ⟨none, [.lst (L.map .int)]⟩ ∧ L.length = M ∧ ∀ x, evZ L x = evZ (p.ts.take k) x * evZ q.ts x := ⟨_, fun _ _ _ => Iff.rfl⟩
  refine for_ix I (fun _ _ _ _ => chk_nil) ((hI _ _ _).mpr ⟨List.replicate M 0, none, none, none, none, rfl, by simp, by simp, fun x => by rw [evZ_zero]; simp [evZ]⟩) ?_ ?_
  · rintro k x l s hx h
    obtain ⟨L, v, w, a, b, rfl, rfl, hL, hg⟩ := (hI _ _ _).mp h
    obtain ⟨t, ht, rfl⟩ := enum_int hx
    have hk : k < p.ts.length := (List.getElem?_eq_some_iff.mp ht).1
    have htb := hp.2.2 t (List.mem_of_getElem? ht)
    simp
    obtain ⟨J, hJ⟩ : ∃ J : Nat → NW.Loc → Sto → Prop, ∀ j l s, J j l s ↔ ∃ (L : List Int) (a b : Option U), l = [some (.d (polyD p)), some (.d (polyD q)), some (.ref 0), some (.d (.int (k : Nat))), some (.d (.int t)), a, b] ∧ s = ⟨none, [.lst (L.map .int)]⟩ ∧ L.length = M ∧ ∀ x, evZ L x = evZ (p.ts.take k) x * evZ q.ts x + t * x ^ k * evZ (q.ts.take j) x := ⟨_, fun _ _ _ => Iff.rfl⟩
    refine for_ix J (fun _ _ _ _ => chk_nil) ((hJ _ _ _).mpr ⟨L, a, b, rfl, rfl, hL, fun x => by rw [hg x]; simp [evZ]; grind⟩) ?_ ?_
    · rintro j y l s hy h
      obtain ⟨L, a, b, rfl, rfl, hL, hg⟩ := (hJ _ _ _).mp h
      obtain ⟨u, hu, rfl⟩ := enum_int hy
      have hj : j < q.ts.length := (List.getElem?_eq_some_iff.mp hu).1
      have mc : mulC t u = true := mx htb (hq.2.2 u (List.mem_of_getElem? hu)) hn
      obtain ⟨i, hi⟩ : ∃ i, i = k + j := ⟨_, rfl⟩
      have hkM : i < L.length := by omega
      have e1 : (k : Int) + j = (i : Int) := by omega
      simp [mc, e1, idxN_nat hkM, hkM]
      refine (hJ _ _ _).mpr ⟨L.set i (L[i] + t * u), _, _, rfl, by rw [map_set], by simpa using hL, fun x => ?_⟩
      rw [evZ_set (by simp [hkM]), hg x, evZ_take hu, Rat.intCast_mul, hi]
      grind
    · intro l s h
      obtain ⟨L, a, b, rfl, rfl, hL, hg⟩ := (hJ _ _ _).mp h
      refine (hI _ _ _).mpr ⟨L, _, _, _, _, rfl, rfl, hL, fun x => ?_⟩
      have : (enumD (q.ts.map PyData.int)).length = q.ts.length := by simp [enumD]
      rw [hg x, evZ_take ht, this, List.take_length]
      grind
  · intro l s h
    obtain ⟨L, v, w, a, b, rfl, rfl, hL, hg⟩ := (hI _ _ _).mp h
    have mc : mulC p.b q.b = true := mx (a := n) (b := n2) (by simpa using hp.2.1) (by simpa using hq.2.1) hn
    have hbb : p.b * q.b < 2 ^ 8999 := by
      have := two_ltx (i := (p.b : Int)) (j := (q.b : Int)) (by simpa using hp.2.1) (by simpa using hq.2.1) hn
      rw [← Int.natCast_mul] at this
      exact this
    simp [mc]
    have e := L_poly_to (S := .list (L.map .int)) (ts := L) (b := p.b * q.b) (P := fun d => noLst d = true ∧ P d) (.inl rfl) (Nat.mul_pos p.hb q.hb) hbb (by omega) ?_
    · rw [Int.natCast_mul] at e; exact e
    · refine ⟨noLst_poly, ?_⟩
      have el : (enumD (p.ts.map PyData.int)).length = p.ts.length := by simp [enumD]
      have ee : NW.mk L (p.b * q.b) = p * q := mk_ext (Nat.mul_pos p.hb q.hb) (Nat.mul_pos p.hb q.hb) fun x => by rw [hg x, el, List.take_length, evZ_mulZ]
      rw [ee]; exact hP
theorem L_sumx {p q : Pol} {n n2 m : Nat} {P : PyData → Prop} (hp : PBt n m p) (hq : PBt n2 m q) (hm : m ≤ 1000) (hn : n + n2 ≤ 8999) (hP : P (polyD (p + q))) : (m_L_sum [polyD p, polyD q]).To P := by
  unfold m_L_sum
  rw [pure_to]
  unfold b_L_sum
  have hpl := hp.1
  have hql := hq.1
  simp [startL]
  have eM : (if p.ts.length < q.ts.length then (q.ts.length : Int) else (p.ts.length : Int)) = ((max p.ts.length q.ts.length : Nat) : Int) := by
    split <;> omega
  rw [eM]
  generalize hM : max p.ts.length q.ts.length = M
  have hM1 : p.ts.length ≤ M := by omega
  have hM2 : q.ts.length ≤ M := by omega
  refine ⟨by omega, ?_⟩
  obtain ⟨I, hI⟩ : ∃ I : Nat → NW.Loc → Sto → Prop, ∀ k l s, I k l s ↔ ∃ (L : List Int) (v w : Option U), l = [some (.d (polyD p)), some (.d (polyD q)), some (.d (.int M)), some (.ref 0), v, w] ∧ s = ⟨none, [.lst (L.map .int)]⟩ ∧ L.length = M ∧ ∀ x, evZ L x = evZ (p.ts.take k) x * (q.b : Int) := ⟨_, fun _ _ _ => Iff.rfl⟩
  refine for_ix I (fun _ _ _ _ => chk_nil) ((hI _ _ _).mpr ⟨List.replicate M 0, none, none, rfl, by simp, by simp, fun x => by rw [evZ_zero]; simp [evZ]⟩) ?_ ?_
  · rintro k x l s hx h
    obtain ⟨L, v, w, rfl, rfl, hL, hg⟩ := (hI _ _ _).mp h
    obtain ⟨t, ht, rfl⟩ := enum_int hx
    have hk : k < p.ts.length := (List.getElem?_eq_some_iff.mp ht).1
    have mc : mulC t q.b = true := mx (hp.2.2 t (List.mem_of_getElem? ht)) (by simpa using hq.2.1) hn
    have hkM : k < L.length := by omega
    simp [mc, idxN_nat hkM, hkM]
    refine (hI _ _ _).mpr ⟨L.set k (L[k] + t * q.b), _, _, rfl, by rw [map_set], by simpa using hL, fun x => ?_⟩
    rw [evZ_set (by simp [hkM]), hg x, evZ_take ht, Rat.intCast_mul]
    grind
  · intro l s h
    obtain ⟨L, v, w, rfl, rfl, hL, hg⟩ := (hI _ _ _).mp h
    have el : (enumD (p.ts.map PyData.int)).length = p.ts.length := by simp [enumD]
    rw [el, List.take_length] at hg
    clear h
    simp
    obtain ⟨J, hJ⟩ : ∃ J : Nat → NW.Loc → Sto → Prop, ∀ k l s, J k l s ↔ ∃ (L : List Int) (v w : Option U), l = [some (.d (polyD p)), some (.d (polyD q)), some (.d (.int M)), some (.ref 0), v, w] ∧ s = ⟨none, [.lst (L.map .int)]⟩ ∧ L.length = M ∧ ∀ x, evZ L x = evZ p.ts x * (q.b : Int) + evZ (q.ts.take k) x * (p.b : Int) := ⟨_, fun _ _ _ => Iff.rfl⟩
    refine for_ix J (fun _ _ _ _ => chk_nil) ((hJ _ _ _).mpr ⟨L, v, w, rfl, rfl, hL, fun x => by rw [hg x]; simp [evZ]; grind⟩) ?_ ?_
    · rintro k x l s hx h
      obtain ⟨L, v, w, rfl, rfl, hL, hg⟩ := (hJ _ _ _).mp h
      obtain ⟨t, ht, rfl⟩ := enum_int hx
      have hk : k < q.ts.length := (List.getElem?_eq_some_iff.mp ht).1
      have mc : mulC t p.b = true := mx (hq.2.2 t (List.mem_of_getElem? ht)) (by simpa using hp.2.1) (by omega)
      have hkM : k < L.length := by omega
      simp [mc, idxN_nat hkM, hkM]
      refine (hJ _ _ _).mpr ⟨L.set k (L[k] + t * p.b), _, _, rfl, by rw [map_set], by simpa using hL, fun x => ?_⟩
      rw [evZ_set (by simp [hkM]), hg x, evZ_take ht, Rat.intCast_mul]
      grind
    · intro l s h
      obtain ⟨L, v, w, rfl, rfl, hL, hg⟩ := (hJ _ _ _).mp h
      have el : (enumD (q.ts.map PyData.int)).length = q.ts.length := by simp [enumD]
      rw [el, List.take_length] at hg
      have mc : mulC p.b q.b = true := mx (a := n) (b := n2) (by simpa using hp.2.1) (by simpa using hq.2.1) hn
      have hbb : p.b * q.b < 2 ^ 8999 := by
        have := two_ltx (i := (p.b : Int)) (j := (q.b : Int)) (by simpa using hp.2.1) (by simpa using hq.2.1) hn
        rw [← Int.natCast_mul] at this
        exact this
      simp [mc]
      have e := L_poly_to (S := .list (L.map .int)) (ts := L) (b := p.b * q.b) (P := fun d => noLst d = true ∧ P d) (.inl rfl) (Nat.mul_pos p.hb q.hb) hbb (by omega) ?_
      · rw [Int.natCast_mul] at e; exact e
      · refine ⟨noLst_poly, ?_⟩
        have ee : NW.mk L (p.b * q.b) = p + q := Pol.ext_ev fun x => by
          rw [ev_mk (Nat.mul_pos p.hb q.hb), ev_add, hg x, Int.natCast_mul, Rat.intCast_mul]
          unfold Pol.ev
          have := p.bne
          have := q.bne
          grind
        rw [ee]; exact hP
/-! how long -/
theorem add_len {p q : Pol} : (p + q).ts.length ≤ max p.ts.length q.ts.length := len_le fun k hk => by
  rw [co_add, co_zero_of (p := p) (by omega), co_zero_of (p := q) (by omega)]; grind
theorem mk_len {ts : List Int} {b : Nat} : (mk ts b).ts.length ≤ ts.length := by
  unfold mk
  split
  · simp [mkT]; omega
  · simp
theorem hz_len {b : Nat} (hb : 0 < b) {g : Pol} : ∀ {ts : List Int}, (hz b g ts).ts.length ≤ (ts.length - 1) * (g.ts.length - 1) + 1
  | [] => by simp [hz, Pol.zero]
  | [t] => by
    have e : hz b g [t] = mk [t] b := Pol.ext_ev fun x => by
      rw [ev_hz hb, ev_mk hb]; simp [evZ]
    rw [e]
    have := mk_len (ts := [t]) (b := b)
    simp at this ⊢
    omega
  | t :: u :: ts => by
    have ih := hz_len hb (g := g) (ts := u :: ts)
    have h1 := add_len (p := hz b g (u :: ts) * g) (q := mk [t] b)
    have h2 := mul_len (p := hz b g (u :: ts)) (q := g)
    have h3 := mk_len (ts := [t]) (b := b)
    have e : hz b g (t :: u :: ts) = hz b g (u :: ts) * g + mk [t] b := rfl
    rw [e]
    simp only [List.length_cons, Nat.add_sub_cancel, List.length_nil] at ih h3 ⊢
    rw [Nat.add_mul, Nat.one_mul]
    omega
theorem hz_one {b : Nat} (hb : 0 < b) {g : Pol} {t : Int} : hz b g [t] = mk [t] b := Pol.ext_ev fun x => by
  rw [ev_hz hb, ev_mk hb]; simp [evZ]
theorem hz_sz2 {b n n2 m : Nat} {g : Pol} (hb : 0 < b) (h0 : 0 < n) (hbn : b < 2 ^ n) (hg : PBt n2 m g) : ∀ {ts : List Int}, (∀ t, t ∈ ts → t.natAbs < 2 ^ n) → (ts.length - 1) * m + 1 ≤ 1000 → PBt ((ts.length - 1) * (n + n2 + 11) + n) ((ts.length - 1) * m + 1) (hz b g ts)
  | [], _, _ => by rw [hz]; exact PBt.zero.mono (by omega) (by omega)
  | [t], ht, _ => by rw [hz_one hb]; exact (PBt.mk (m := 1) hb (by simp) hbn (by simpa using ht t (by simp))).mono (by omega) (by omega)
  | t :: u :: ts, ht, hl => by
    simp only [List.length_cons, Nat.add_sub_cancel] at hl ⊢
    have e : (ts.length + 1) * m = ts.length * m + m := by rw [Nat.add_mul, Nat.one_mul]
    have e2 : (ts.length + 1) * (n + n2 + 11) = ts.length * (n + n2 + 11) + (n + n2 + 11) := by rw [Nat.add_mul, Nat.one_mul]
    have ih := hz_sz2 hb h0 hbn hg (ts := u :: ts) (fun v hv => ht v (by simp [List.mem_cons.mp hv])) (by simp; omega)
    simp only [List.length_cons, Nat.add_sub_cancel] at ih
    have h1 := ih.mul hg (by omega)
    have h2 : PBt n (ts.length * m + 1 + m) (mk [t] b) := PBt.mk hb (by simp; omega) hbn (by simpa using ht t (by simp))
    have e3 : hz b g (t :: u :: ts) = hz b g (u :: ts) * g + mk [t] b := rfl
    rw [e3]
    exact (h1.add h2).mono (by omega) (by omega)
theorem PBt.tight {n m : Nat} {p : Pol} (h : PBt n m p) : PBt n p.ts.length p := ⟨Nat.le_refl _, h.2⟩
theorem comp_len {f g : Pol} : (f.comp g).ts.length ≤ (f.ts.length - 1) * (g.ts.length - 1) + 1 := hz_len f.hb
theorem PBt.comp2 {n n2 m1 m : Nat} {f g : Pol} (h0 : 0 < n) (hf : PBt n m1 f) (hg : PBt n2 m g) (hl : (m1 - 1) * m + 1 ≤ 1000) : PBt ((m1 - 1) * (n + n2 + 11) + n) ((m1 - 1) * (m - 1) + 1) (f.comp g) := by
  have h1 : (f.ts.length - 1) * m ≤ (m1 - 1) * m := Nat.mul_le_mul_right _ (by have := hf.1; omega)
  have h2 : (f.ts.length - 1) * (n + n2 + 11) ≤ (m1 - 1) * (n + n2 + 11) := Nat.mul_le_mul_right _ (by have := hf.1; omega)
  have h3 : (f.ts.length - 1) * (g.ts.length - 1) ≤ (m1 - 1) * (m - 1) := Nat.mul_le_mul (by have := hf.1; omega) (by have := hg.1; omega)
  have z := (hz_sz2 f.hb h0 hf.2.1 hg hf.2.2 (by omega)).mono (n' := (m1 - 1) * (n + n2 + 11) + n) (m' := 1000) (by omega) (by omega)
  exact ⟨Nat.le_trans comp_len (by omega), z.2⟩
theorem putx {f g : Pol} {n n2 m1 m : Nat} {P : PyData → Prop} (h0 : 0 < n) (hf : PBt n m1 f) (hg : PBt n2 m g) (hm : m ≤ 1000) (hl : (m1 - 1) * m + 1 ≤ 1000) (hn : (m1 - 1) * (n + n2 + 11) + 2 * n + n2 ≤ 8999) (h : P (polyD (f.comp g))) : (m_put [polyD f, polyD g]).To P := by
  unfold m_put
  rw [pure_to]
  unfold b_put
  have hfl := hf.1
  have hfb := f.hb
  have hb9 : f.b < 2 ^ 8999 := Nat.lt_of_lt_of_le hf.2.1 (Nat.pow_le_pow_right (by omega) (by omega))
  simp [startL]
  obtain ⟨I, hI⟩ : ∃ I : List Int → NW.Loc → Sto → Prop, ∀ us l s, I us l s ↔ ∃ (v : Option U), l = [some (.d (polyD f)), some (.d (polyD g)), some (.d (polyD (hz f.b g us))), v] ∧ s = ⟨none, []⟩ := ⟨_, fun _ _ _ => Iff.rfl⟩
  refine for_rev I (fun _ _ _ _ => chk_nil) ((hI _ _ _).mpr ⟨none, rfl, rfl⟩) ?_ ?_
  · rintro as u us l s e h
    obtain ⟨v, rfl, rfl⟩ := (hI _ _ _).mp h
    have hul : us.length + 1 ≤ m1 := by
      have := congrArg List.length e
      simp at this; omega
    have ht : ∀ t, t ∈ us → t.natAbs < 2 ^ n := fun t ht => hf.2.2 t (by rw [e]; simp [ht])
    have hu := hf.2.2 u (by rw [e]; simp)
    have s2 : PBt n 1 (mk [u] f.b) := PBt.mk f.hb (by simp) hf.2.1 (by simpa using hu)
    have fin : I (u :: us) [some (U.d (polyD f)), some (U.d (polyD g)), some (U.d (polyD (hz f.b g (u :: us)))), some (U.d (.int u))] ⟨none, []⟩ := (hI _ _ _).mpr ⟨_, rfl, rfl⟩
    cases us with
    | nil =>
      simp
      refine timesx PBt.zero hg (by omega) (by omega) (by omega) ?_
      refine over_to (ts := [u]) (.inl rfl) f.hb hb9 (by simp) ?_
      have ez : Pol.zero * g = Pol.zero := Pol.ext_ev fun x => by rw [ev_mul, ev_zero]; simp
      have e3 : hz f.b g [] * g + mk [u] f.b = hz f.b g [u] := rfl
      have e4 : hz f.b g [] = Pol.zero := rfl
      rw [e4, ez] at e3
      rw [e4, ez]
      refine plusx (m := 1) PBt.zero s2 (by omega) (by omega) ?_
      rw [e3]
      exact fin
    | cons w ws =>
      simp only [List.length_cons] at hul
      have e1 : ws.length * m + m ≤ (m1 - 1) * m := by
        have := Nat.mul_le_mul_right m (show ws.length + 1 ≤ m1 - 1 by omega)
        rwa [Nat.add_mul, Nat.one_mul] at this
      have e2 : ws.length * (n + n2 + 11) + (n + n2 + 11) ≤ (m1 - 1) * (n + n2 + 11) := by
        have := Nat.mul_le_mul_right (n + n2 + 11) (show ws.length + 1 ≤ m1 - 1 by omega)
        rwa [Nat.add_mul, Nat.one_mul] at this
      have sz := hz_sz2 f.hb h0 hf.2.1 hg ht (by simp; omega)
      simp only [List.length_cons, Nat.add_sub_cancel] at sz
      have s3 := sz.mul hg (by omega)
      simp
      refine timesx sz hg (by omega) (by omega) (by omega) ?_
      refine over_to (ts := [u]) (.inl rfl) f.hb hb9 (by simp) ?_
      refine plusx (m := ws.length * m + 1 + m) (s3.mono (Nat.le_refl _) (by omega)) (s2.mono (Nat.le_refl _) (by omega)) (by omega) (by omega) ?_
      exact fin
  · intro l s h'
    obtain ⟨v, rfl, rfl⟩ := (hI _ _ _).mp h'
    simp
    exact h
theorem by_powers_2_to {f g : Pol} {n n2 m1 m : Nat} {P : PyData → Prop} (h0 : 0 < n) (hf : PBt n m1 f) (hg : PBt n2 m g) (hl : m1 * m + 2 ≤ 1000) (hm : m ≤ 1000) (hn : (m1 - 1) * (n + n2 + 11) + 2 * n + 22 + n2 + (m1 - 1) * (n2 + 10) ≤ 8999) (h : P (polyD (f.comp g))) : (m_L_by_powers_2 [polyD f, polyD g]).To P := by
  unfold m_L_by_powers_2
  rw [pure_to]
  unfold b_L_by_powers_2
  have hfl := hf.1
  have hfb := f.hb
  have hb9 : f.b < 2 ^ 8999 := Nat.lt_of_lt_of_le hf.2.1 (Nat.pow_le_pow_right (by omega) (by omega))
  simp [startL]
  rw [polyD_zero, polyD_one]
  obtain ⟨I, hI⟩ : ∃ I : Nat → NW.Loc → Sto → Prop, ∀ k l s, I k l s ↔ ∃ (v : Option U), l = [some (.d (polyD f)), some (.d (polyD g)), some (.d (polyD (hz f.b g (f.ts.take k)))), some (.d (polyD (g.pw k))), v] ∧ s = ⟨none, []⟩ := ⟨_, fun _ _ _ => Iff.rfl⟩
  refine for_ix I (fun _ _ _ _ => chk_nil) ((hI _ _ _).mpr ⟨none, rfl, rfl⟩) ?_ ?_
  · rintro k x l s hx h'
    obtain ⟨v, rfl, rfl⟩ := (hI _ _ _).mp h'
    clear h'
    rw [List.getElem?_map] at hx
    cases e : f.ts[k]? with
    | none => rw [e] at hx; cases hx
    | some t =>
      rw [e] at hx; cases hx
      have hk := (List.getElem?_eq_some_iff.mp e).1
      have ht := hf.2.2 t (List.mem_of_getElem? e)
      have e2 : (f.ts.take k).length = k := by simp; omega
      have l0 : (k - 1) * m ≤ (m1 - 1) * m := Nat.mul_le_mul_right _ (by omega)
      have l1 : k * m + m ≤ m1 * m := by
        have := Nat.mul_le_mul_right m (show k + 1 ≤ m1 by omega)
        rwa [Nat.add_mul, Nat.one_mul] at this
      have l0' : (k - 1) * m ≤ k * m := Nat.mul_le_mul_right _ (by omega)
      have l2 : (k - 1) * (n + n2 + 11) ≤ (m1 - 1) * (n + n2 + 11) := Nat.mul_le_mul_right _ (by omega)
      have l3 : k * (n2 + 10) ≤ (m1 - 1) * (n2 + 10) := Nat.mul_le_mul_right _ (by omega)
      have sz := hz_sz2 f.hb h0 hf.2.1 hg (ts := f.ts.take k) (fun u hu => hf.2.2 u (List.mem_of_mem_take hu)) (by rw [e2]; omega)
      rw [e2] at sz
      have szp := hg.pw (k := k) (by omega)
      have s2 : PBt n 1 (mk [t] f.b) := PBt.mk f.hb (by simp) hf.2.1 (by simpa using ht)
      have s3 := szp.mul s2 (by omega)
      simp
      refine L_poly_to (ts := [t]) (.inl rfl) f.hb hb9 (by simp) ?_
      refine L_timesx szp s2 (by omega) (by omega) (by omega) ?_
      refine L_sumx (m := m1 * m + 2) (sz.mono (Nat.le_refl _) (by omega)) (s3.mono (Nat.le_refl _) (by omega)) (by omega) (by omega) ?_
      refine L_timesx szp hg (by omega) (by omega) (by omega) ?_
      have ee : hz f.b g (f.ts.take k) + g.pw k * mk [t] f.b = hz f.b g (f.ts.take (k + 1)) := Pol.ext_ev fun x => by
        rw [ev_add, ev_mul, ev_hz f.hb, ev_hz f.hb, ev_pw, ev_mk f.hb, evZ_take e]
        simp only [evZ]
        grind
      rw [ee]
      exact (hI _ _ _).mpr ⟨_, rfl, rfl⟩
  · intro l s h'
    obtain ⟨v, rfl, rfl⟩ := (hI _ _ _).mp h'
    simp
    have e1 : hz f.b g (f.ts.take f.ts.length) = f.comp g := by rw [List.take_length]; rfl
    have e2 : f.ts.take f.ts.length = f.ts := List.take_length ..
    rw [← e1] at h
    simpa [e2] using h
/-! again -/
def Pol.again (f : Pol) : Nat → Pol
  | 0 => Pol.X
  | k + 1 => f.comp (f.again k)
theorem againx {f : Pol} {n m1 k : Nat} {P : PyData → Prop} (h0 : 0 < n) (hf : PBt n m1 f) (hk : k ≤ 1000) (hs : ∀ j, j < k → ∃ B M, PBt B M (f.again j) ∧ M ≤ 1000 ∧ (m1 - 1) * M + 1 ≤ 1000 ∧ (m1 - 1) * (n + B + 11) + 2 * n + B ≤ 8999) (h : P (polyD (f.again k))) : (m_again [polyD f, .int k]).To P := by
  unfold m_again
  rw [pure_to]
  unfold b_again
  simp [startL]
  refine ⟨decide_eq_true (by omega), ?_⟩
  rw [range_map]
  obtain ⟨I, hI⟩ : ∃ I : Nat → NW.Loc → Sto → Prop, ∀ j l s, I j l s ↔ ∃ (v : Option U), l = [some (.d (polyD f)), some (.d (.int k)), some (.d (polyD (f.again j))), v] ∧ s = ⟨none, []⟩ := ⟨_, fun _ _ _ => Iff.rfl⟩
  refine for_ix I (fun _ _ _ _ => chk_nil) ((hI _ _ _).mpr ⟨none, rfl, rfl⟩) ?_ ?_
  · rintro j x l s hx h
    obtain ⟨v, rfl, rfl⟩ := (hI _ _ _).mp h
    have hx' := (List.getElem?_eq_some_iff.mp hx).1
    simp at hx'
    obtain ⟨B, M, z1, z2, z3, z4⟩ := hs j hx'
    simp
    refine putx h0 hf z1 z2 z3 z4 ?_
    exact (hI _ _ _).mpr ⟨_, rfl, rfl⟩
  · intro l s h'
    obtain ⟨v, rfl, rfl⟩ := (hI _ _ _).mp h'
    simp
    exact h
end NW

namespace NW
open PySem PySem.Spec PyProof.Rows L2
/-! ### greater draws; put by the laws' own functions; straight ones -/
theorem pickx {f : Fl} (hf : FlOk f) {many : Int} (h0 : 0 < many) {b : Nat} (hb0 : 0 < b) (hb9 : b ≤ 9000) (h1 : many.natAbs < 2 ^ b) : (m_L_pick [.int many] f).To fun d f' => ∃ i, d = .int i ∧ 0 ≤ i ∧ i < many ∧ FlOk f' := by
  unfold m_L_pick
  rw [flow_to]
  obtain ⟨cells, place, held, seed, mny⟩ := f
  obtain ⟨a1, a2, a3, a4⟩ := hf
  simp only at a1 a2 a3 a4
  unfold b_L_pick
  simp only [startL, List.map_cons, List.map_nil, List.length_cons, List.length_nil, List.cons_append, List.nil_append, List.replicate]
  have tail : ∀ (cells : List Int) (place held seed mny : Int) (c : Option U), 0 ≤ held → 0 ≤ seed → seed < 2147483647 → 0 ≤ place →
      (held ≤ 0 ∧ mulC seed 48271 = true ∧ divC ((seed * 48271 + 12820163 + (mny + 1)).fmod 2147483647) 65521 = true ∧
    mulC (((seed * 48271 + 12820163 + (mny + 1)).fmod 2147483647).fmod 65521 + 1) (((seed * 48271 + 12820163 + (mny + 1)).fmod 2147483647).fdiv 65521 + 7919) = true ∧
    divC (((((seed * 48271 + 12820163 + (mny + 1)).fmod 2147483647).fmod 65521 + 1) * (((seed * 48271 + 12820163 + (mny + 1)).fmod 2147483647).fdiv 65521 + 7919)).fmod 1000003) 7 = true ∧ ¬many = 0 ∧
      0 ≤ (((((((seed * 48271 + 12820163 + (mny + 1)).fmod 2147483647).fmod 65521 + 1) * (((seed * 48271 + 12820163 + (mny + 1)).fmod 2147483647).fdiv 65521 + 7919)).fmod 1000003).fdiv 7).fmod many) ∧
      (((((((seed * 48271 + 12820163 + (mny + 1)).fmod 2147483647).fmod 65521 + 1) * (((seed * 48271 + 12820163 + (mny + 1)).fmod 2147483647).fdiv 65521 + 7919)).fmod 1000003).fdiv 7).fmod many) < many ∧
      FlOk { cells := cells, place := place, held := held, seed := (seed * 48271 + 12820163 + (mny + 1)).fmod 2147483647, many := mny + 1 }) ∨
      0 < held ∧ ¬many = 0 ∧ divC held many = true ∧ 0 ≤ held.fmod many ∧ held.fmod many < many ∧ FlOk { cells := cells, place := place, held := held.fdiv many, seed := seed, many := mny } := by
    intro cells place held seed mny c b1 b2 b3 b4
    by_cases hh : held ≤ 0
    · exact .inl ⟨hh, pick_A (P := fun i s => 0 ≤ i ∧ i < many ∧ FlOk ⟨cells, place, held, s, mny + 1⟩) b2 b3 h0 fun i s c1 c2 c3 c4 => ⟨c1, c2, b1, c3, c4, b4⟩⟩
    · have d := fmod_lt (a := held) h0
      exact .inr ⟨by omega, by omega, divC_of (b := b) (by omega) h1 hb0 hb9, d.1, d.2, fdiv_nn b1 h0, b2, b3, b4⟩
  by_cases hh : held = 0
  · subst hh
    by_cases hp : place < cells.length
    · obtain ⟨n, rfl⟩ := Int.eq_ofNat_of_zero_le a4
      have hn : n < cells.length := by omega
      have hq : ¬ cells.length ≤ n := by omega
      have e1 : idxN cells.length ((n : Nat) : Int) = some n := idxN_nat hn
      have e2 : cells[n]? = some cells[n] := List.getElem?_eq_getElem hn
      by_cases hx : cells[n] < 1000000000000000000
      · have z := tail cells ((n : Int) + 1) 0 ((seed * 40013 + cells[n].fmod 1000003 + 1).fmod 2147483647) mny none a1 (fmod_lt (by omega)).1 (fmod_lt (by omega)).2 (by omega)
        have y := mulC_small (i := seed) (j := 40013) (by omega) (by omega)
        have hx1 : ¬ 1000000000000000000 ≤ cells[n] := by omega
        simp [hn, hq, e1, e2, hx, hx1, y] at z ⊢
        exact z
      · have hx' : ¬ cells[n] < 1000000000000000000 := hx
        have z := tail cells ((n : Int) + 1) cells[n] seed mny none (by omega) a2 a3 (by omega)
        have hx2 : 1000000000000000000 ≤ cells[n] := by omega
        have hx3 : 0 < cells[n] := by omega
        have hx4 : ¬ cells[n] ≤ 0 := by omega
        simp [hn, hq, e1, e2, hx, hx2, hx3, hx4] at z ⊢
        exact z
    · have hp' : (cells.length : Int) ≤ place := by omega
      have z := tail cells place 0 seed mny none a1 a2 a3 a4
      simp [hp, hp'] at z ⊢
      exact z
  · have z := tail cells place held seed mny none a1 a2 a3 a4
    simp [hh] at z ⊢
    exact z

theorem L_ofx {f g : Pol} {n n2 m1 m : Nat} {P : PyData → Prop} (h0 : 0 < n) (hf : PBt n m1 f) (hg : PBt n2 m g) (hm : m ≤ 1000) (hl : (m1 - 1) * m + 1 ≤ 1000) (hn : (m1 - 1) * (n + n2 + 11) + 2 * n + n2 ≤ 8999) (h : P (polyD (f.comp g))) : (m_L_of [polyD f, polyD g]).To P := by
  unfold m_L_of
  rw [pure_to]
  unfold b_L_of
  have hfl := hf.1
  have hfb := f.hb
  have hb9 : f.b < 2 ^ 8999 := Nat.lt_of_lt_of_le hf.2.1 (Nat.pow_le_pow_right (by omega) (by omega))
  simp [startL]
  rw [polyD_zero]
  obtain ⟨I, hI⟩ : ∃ I : List Int → NW.Loc → Sto → Prop, ∀ us l s, I us l s ↔ ∃ (v : Option U), l = [some (.d (polyD f)), some (.d (polyD g)), some (.d (polyD (hz f.b g us))), v] ∧ s = ⟨none, []⟩ := ⟨_, fun _ _ _ => Iff.rfl⟩
  refine for_rev I (fun _ _ _ _ => chk_nil) ((hI _ _ _).mpr ⟨none, rfl, rfl⟩) ?_ ?_
  · rintro as u us l s e h
    obtain ⟨v, rfl, rfl⟩ := (hI _ _ _).mp h
    have hul : us.length + 1 ≤ m1 := by
      have := congrArg List.length e
      simp at this; omega
    have ht : ∀ t, t ∈ us → t.natAbs < 2 ^ n := fun t ht => hf.2.2 t (by rw [e]; simp [ht])
    have hu := hf.2.2 u (by rw [e]; simp)
    have s2 : PBt n 1 (mk [u] f.b) := PBt.mk f.hb (by simp) hf.2.1 (by simpa using hu)
    have fin : I (u :: us) [some (U.d (polyD f)), some (U.d (polyD g)), some (U.d (polyD (hz f.b g (u :: us)))), some (U.d (.int u))] ⟨none, []⟩ := (hI _ _ _).mpr ⟨_, rfl, rfl⟩
    cases us with
    | nil =>
      simp
      refine L_timesx PBt.zero hg (by omega) (by omega) (by omega) ?_
      refine L_poly_to (ts := [u]) (.inl rfl) f.hb hb9 (by simp) ?_
      have ez : Pol.zero * g = Pol.zero := Pol.ext_ev fun x => by rw [ev_mul, ev_zero]; simp
      have e3 : hz f.b g [] * g + mk [u] f.b = hz f.b g [u] := rfl
      have e4 : hz f.b g [] = Pol.zero := rfl
      rw [e4, ez] at e3
      rw [e4, ez]
      refine L_sumx (m := 1) PBt.zero s2 (by omega) (by omega) ?_
      rw [e3]
      exact fin
    | cons w ws =>
      simp only [List.length_cons] at hul
      have e1 : ws.length * m + m ≤ (m1 - 1) * m := by
        have := Nat.mul_le_mul_right m (show ws.length + 1 ≤ m1 - 1 by omega)
        rwa [Nat.add_mul, Nat.one_mul] at this
      have e2 : ws.length * (n + n2 + 11) + (n + n2 + 11) ≤ (m1 - 1) * (n + n2 + 11) := by
        have := Nat.mul_le_mul_right (n + n2 + 11) (show ws.length + 1 ≤ m1 - 1 by omega)
        rwa [Nat.add_mul, Nat.one_mul] at this
      have sz := hz_sz2 f.hb h0 hf.2.1 hg ht (by simp; omega)
      simp only [List.length_cons, Nat.add_sub_cancel] at sz
      have s3 := sz.mul hg (by omega)
      simp
      refine L_timesx sz hg (by omega) (by omega) (by omega) ?_
      refine L_poly_to (ts := [u]) (.inl rfl) f.hb hb9 (by simp) ?_
      refine L_sumx (m := ws.length * m + 1 + m) (s3.mono (Nat.le_refl _) (by omega)) (s2.mono (Nat.le_refl _) (by omega)) (by omega) (by omega) ?_
      exact fin
  · intro l s h'
    obtain ⟨v, rfl, rfl⟩ := (hI _ _ _).mp h'
    simp
    exact h
theorem alike3_to : ∀ (n : Nat) (d : PyData), Lk n d → (m_L_alike_3 n [d, d]).To fun x => x = .bool true := by
  intro n
  induction n with
  | zero => intro d h; exact h.elim
  | succ n ih =>
    intro d h
    rw [s_L_alike_3, pure_to]
    unfold b_L_alike_3
    cases d with
    | list xs =>
      have h1 := h.1
      simp [startL, h1]
      refine ⟨decide_eq_true (by omega), by omega, ?_⟩
      refine lc_map (g := fun _ => .bool true) ?_ ?_
      rotate_left
      · exact cAll_yes (by exact rfl)
      intro x hx
      obtain ⟨i, hi, rfl⟩ := range_mem hx
      simp [wipeL, idxN_nat hi, hi]
      exact (ih _ (h.2 _ (List.getElem_mem hi))).mono fun d hd => hd
    | tuple xs => 
      have h1 := h.1
      simp [startL, h1]
      refine ⟨decide_eq_true (by omega), by omega, ?_⟩
      refine lc_map (g := fun _ => .bool true) ?_ ?_
      rotate_left
      · exact cAll_yes (by exact rfl)
      intro x hx
      obtain ⟨i, hi, rfl⟩ := range_mem hx
      simp [wipeL, idxN_nat hi, hi]
      exact (ih _ (h.2 _ (List.getElem_mem hi))).mono fun d hd => hd
    | dict xs => exact h.elim
    | str z =>
      have hs : SeqAt.shaped (.str z) = true := by
        unfold SeqAt.shaped
        rw [show (PyData.str z).canLay0 = true from h]; simp [PyData.depth]
      simp [startL, hs, PySem.SeqAt.eqv_refl _ h]
    | int i => simp [startL]
    | bool i => simp [startL]
    | none => simp [startL]; rfl
theorem alike2_to : ∀ (n : Nat) (d : PyData), Lk n d → (m_L_alike_2 n [d, d]).To fun x => x = .bool true := by
  intro n
  induction n with
  | zero => intro d h; exact h.elim
  | succ n ih =>
    intro d h
    rw [s_L_alike_2, pure_to]
    unfold b_L_alike_2
    cases d with
    | list xs =>
      have h1 := h.1
      simp [startL, h1]
      refine ⟨decide_eq_true (by omega), by omega, ?_⟩
      refine lc_map (g := fun _ => .bool true) ?_ ?_
      rotate_left
      · exact cAll_yes (by exact rfl)
      intro x hx
      obtain ⟨i, hi, rfl⟩ := range_mem hx
      simp [wipeL, idxN_nat hi, hi]
      exact (ih _ (h.2 _ (List.getElem_mem hi))).mono fun d hd => hd
    | tuple xs => 
      have h1 := h.1
      simp [startL, h1]
      refine ⟨decide_eq_true (by omega), by omega, ?_⟩
      refine lc_map (g := fun _ => .bool true) ?_ ?_
      rotate_left
      · exact cAll_yes (by exact rfl)
      intro x hx
      obtain ⟨i, hi, rfl⟩ := range_mem hx
      simp [wipeL, idxN_nat hi, hi]
      exact (ih _ (h.2 _ (List.getElem_mem hi))).mono fun d hd => hd
    | dict xs => exact h.elim
    | str z =>
      have hs : SeqAt.shaped (.str z) = true := by
        unfold SeqAt.shaped
        rw [show (PyData.str z).canLay0 = true from h]; simp [PyData.depth]
      simp [startL, hs, PySem.SeqAt.eqv_refl _ h]
    | int i => simp [startL]
    | bool i => simp [startL]
    | none => simp [startL]; rfl
theorem alike3_poly {p q : Pol} (h : p = q) (hl : p.ts.length ≤ 1000) : (m_L_alike_3 8 [polyD p, polyD q]).To fun d => d = .bool true := by
  subst h; exact alike3_to 8 _ (lk_poly (n := 5) hl)
theorem alike2_poly {p q : Pol} (h : p = q) (hl : p.ts.length ≤ 1000) : (m_L_alike_2 8 [polyD p, polyD q]).To fun d => d = .bool true := by
  subst h; exact alike2_to 8 _ (lk_poly (n := 5) hl)
/-- by its fractions -/
def evQ : List Rat → Rat → Rat
  | [], _ => 0
  | q :: qs, x => q + x * evQ qs x
theorem evC_evQ {x : Rat} : ∀ {qs : List Rat} {n : Nat}, qs.length ≤ n → evC n (fun k => qs.getD k 0) x = evQ qs x
  | [], n, _ => by
    induction n with
    | zero => rfl
    | succ n ih =>
      have := ih (by simp)
      simp [evQ] at this
      rw [evC]
      simp [this, evQ]; grind
  | t :: ts, 0, h => by simp at h
  | t :: ts, n + 1, h => by
    rw [evC, evQ]
    have := evC_evQ (x := x) (qs := ts) (n := n) (by simpa using h)
    simp only [List.getD_cons_zero, List.getD_cons_succ]
    rw [this]
theorem ev_ofC {qs : List Rat} {x : Rat} : (ofC qs).ev x = evQ qs x := by
  have e : (ofC qs).co = fun k => qs.getD k 0 := funext fun k => co_ofC k
  rw [ev_co (n := max (ofC qs).ts.length qs.length) (by omega), e, evC_evQ (by omega)]
theorem PBt.ofC {qs : List Rat} {n : Nat} (hq : ∀ q, q ∈ qs → FB n q) (h0 : 0 < n) : PBt (n + 1 + qs.length * n) qs.length (NW.ofC qs) := by
  have hb : 0 < lcms 1 qs := lcms_pos (by decide)
  have hB : lcms 1 qs < 2 ^ (1 + qs.length * n) := lcms_lt hq (by decide)
  refine PBt.mk hb (by simp) (Nat.lt_of_lt_of_le hB (Nat.pow_le_pow_right (by omega) (by omega))) fun t ht => ?_
  obtain ⟨q, hq', rfl⟩ := List.mem_map.mp ht
  rw [Int.natAbs_mul, Int.natAbs_natCast, Nat.add_assoc, Nat.pow_add]
  exact Nat.mul_lt_mul'' (hq q hq').1 (Nat.lt_of_le_of_lt (Nat.div_le_self _ _) hB)
def Pol.lin (a b : Rat) : Pol := NW.ofC [b, a]
theorem ev_lin {a b x : Rat} : (Pol.lin a b).ev x = a * x + b := by
  unfold Pol.lin
  rw [ev_ofC]; simp [evQ]; grind
theorem co_lin0 {a b : Rat} : (Pol.lin a b).co 0 = b := by unfold Pol.lin; rw [co_ofC]; rfl
theorem co_lin1 {a b : Rat} : (Pol.lin a b).co 1 = a := by unfold Pol.lin; rw [co_ofC]; rfl
theorem PBt.lin {a b : Rat} {n : Nat} (ha : FB n a) (hb : FB n b) (h0 : 0 < n) : PBt (3 * n + 1) 2 (Pol.lin a b) :=
  (PBt.ofC (qs := [b, a]) (by simp [ha, hb]) h0).mono (by simp; omega) (by simp)
theorem lin_len {a b : Rat} (ha : a ≠ 0) : (Pol.lin a b).ts.length = 2 := len_of (fun k hk => by
  unfold Pol.lin
  rw [co_ofC, List.getD_eq_getElem?_getD, List.getElem?_eq_none (by simp; omega)]; rfl) fun _ => by
  show (Pol.lin a b).co 1 ≠ 0
  rw [co_lin1]; exact ha
theorem straight_to {a b : Rat} {n : Nat} {P : PyData → Prop} (ha : FB n a) (hb : FB n b) (h0 : 0 < n) (hn : n ≤ 4000) (h : P (polyD (Pol.lin a b))) : (m_straight [fracD a, fracD b]).To P := by
  unfold m_straight
  rw [pure_to]
  unfold b_straight
  simp [startL]
  exact poly_to (qs := [b, a]) (n := n) (.inl rfl) (by simp [ha, hb]) (by simp; omega) h0 (by omega) (by simp) h
/-- l, turned back -/
def Pol.inv (l : Pol) : Pol := Pol.lin (1 / l.co 1) (-(1 / l.co 1 * l.co 0))
theorem co_FB {p : Pol} {n m k : Nat} (h : PBt n m p) : FB n (p.co k) := by
  unfold Pol.co
  have := p.hb
  exact FB.of_divInt (by omega) (h.get k) (by simpa using h.2.1)
theorem inv_FB {l : Pol} {n m : Nat} (h : PBt n m l) (h0 : 0 < n) (hz : l.co 1 ≠ 0) : FB (n + 1) (1 / l.co 1) ∧ FB (2 * n + 1) (-(1 / l.co 1 * l.co 0)) := by
  have h1 : FB (n + 1) (1 / l.co 1) := ((FB.one (n := 1) (by omega)).div2 (co_FB h) hz).mono (by omega)
  exact ⟨h1, ((h1.mul2 (co_FB (k := 0) h)).neg).mono (by omega)⟩
theorem turned_back_to {l : Pol} {n m : Nat} {P : PyData → Prop} (h : PBt n m l) (h0 : 0 < n) (hn : n ≤ 1990) (hz : l.co 1 ≠ 0) (hP : P (polyD l.inv)) : (m_turned_back [polyD l]).To P := by
  unfold m_turned_back
  rw [pure_to]
  unfold b_turned_back
  have hb9 : l.b < 2 ^ 8999 := Nat.lt_of_lt_of_le h.2.1 (Nat.pow_le_pow_right (by omega) (by omega))
  obtain ⟨f1, f2⟩ := inv_FB h h0 hz
  simp [startL]
  refine fraction_at_to (k := 1) hb9 ?_
  rw [fracD_1]
  refine dividedx (FB.one (n := 1) (by omega)) (co_FB h) hz (by omega) ?_
  refine fraction_at_to (k := 0) hb9 ?_
  refine multipliedx f1 (co_FB (k := 0) h) (by omega) ?_
  rw [fracD_m1]
  refine multipliedx FB_m1 (f1.mul2 (co_FB (k := 0) h)) (by omega) ?_
  have e : (-1 : Rat) * (1 / l.co 1 * l.co 0) = -(1 / l.co 1 * l.co 0) := by grind
  rw [e]
  exact straight_to (n := 2 * n + 1) (f1.mono (by omega)) f2 (by omega) (by omega) hP
theorem PBt.inv {l : Pol} {n m : Nat} (h : PBt n m l) (h0 : 0 < n) (hz : l.co 1 ≠ 0) : PBt (6 * n + 4) 2 l.inv := by
  obtain ⟨f1, f2⟩ := inv_FB h h0 hz
  exact (PBt.lin (f1.mono (by omega)) f2 (by omega)).mono (by omega) (by omega)
theorem L_straight_to {a b : Rat} {n : Nat} {P : PyData → Prop} (ha : FB n a) (hb : FB n b) (hn : n ≤ 4000) (h : P (polyD (Pol.lin a b))) : (m_L_straight [fracD a, fracD b]).To P := by
  unfold m_L_straight
  rw [pure_to]
  unfold b_L_straight
  have m1 : mulC b.num a.den = true := mx hb.1 ha.2 (by omega)
  have m2 : mulC a.num b.den = true := mx ha.1 hb.2 (by omega)
  have m3 : mulC a.den b.den = true := mx ha.2 hb.2 (by omega)
  simp [startL, m1, m2, m3]
  have hbb : a.den * b.den < 2 ^ 8999 := by
    have := two_ltx (i := (a.den : Int)) (j := (b.den : Int)) ha.2 hb.2 (by omega)
    rw [← Int.natCast_mul] at this
    exact this
  have e := L_poly_to (S := .list ([b.num * a.den, a.num * b.den].map .int)) (ts := [b.num * a.den, a.num * b.den]) (b := a.den * b.den) (P := P) (.inl rfl) (Nat.mul_pos a.den_pos b.den_pos) hbb (by simp) ?_
  · rw [Int.natCast_mul] at e; exact e
  · have : NW.mk [b.num * a.den, a.num * b.den] (a.den * b.den) = Pol.lin a b := Pol.ext_ev fun x => by
      rw [ev_mk (Nat.mul_pos a.den_pos b.den_pos), ev_lin]
      simp only [evZ]
      have ea := Rat.num_divInt_den a
      have eb := Rat.num_divInt_den b
      rw [divInt_div] at ea eb
      have za : ((a.den : Int) : Rat) ≠ 0 := fun e => den_ne a (Rat.intCast_eq_zero_iff.mp e)
      have zb : ((b.den : Int) : Rat) ≠ 0 := fun e => den_ne b (Rat.intCast_eq_zero_iff.mp e)
      rw [Int.natCast_mul, Rat.intCast_mul, Rat.intCast_mul, Rat.intCast_mul]
      conv => rhs; rw [← ea, ← eb]
      grind
    rw [this]; exact h
theorem two_ts {l : Pol} (h : l.ts.length = 2) : ∃ t0 t1, l.ts = [t0, t1] ∧ t1 ≠ 0 := by
  have ht := l.ht
  generalize l.ts = ts at h ht
  match ts, h, ht with
  | [t0, t1], _, ht => exact ⟨t0, t1, rfl, ht⟩
theorem L_turned_back_to {l : Pol} {n m : Nat} {P : PyData → Prop} (h : PBt n m l) (hn : n ≤ 8000) (h2 : l.ts.length = 2) (hP : P (polyD l.inv)) : (m_L_turned_back [polyD l]).To P := by
  unfold m_L_turned_back
  rw [pure_to]
  unfold b_L_turned_back
  obtain ⟨t0, t1, e, hz⟩ := two_ts h2
  have s0 := h.2.2 t0 (by rw [e]; simp)
  have s1 := h.2.2 t1 (by rw [e]; simp)
  have hb := h.2.1
  simp [startL, e]
  obtain ⟨sg, hs, hsv⟩ : ∃ sg : Int, ((idxN 2 (if 0 < t1 then 1 else 0)).bind fun j => [PyData.int (-1), PyData.int 1][j]?) = some (.int sg) ∧ (0 < t1 ∧ sg = 1 ∨ t1 < 0 ∧ sg = -1) := by
    by_cases hp : 0 < t1
    · exact ⟨1, by rw [if_pos hp]; rfl, .inl ⟨hp, rfl⟩⟩
    · exact ⟨-1, by rw [if_neg hp]; rfl, .inr ⟨by omega, rfl⟩⟩
  refine ⟨_, hs, ?_⟩
  have sgb : sg.natAbs < 2 ^ 1 := by rcases hsv with ⟨_, rfl⟩ | ⟨_, rfl⟩ <;> decide
  have m1 : mulC t0 sg = true := mx s0 sgb (by omega)
  have m2 : mulC l.b sg = true := mx (by simpa using hb) sgb (by omega)
  have ea : (if t1 < 0 then -t1 else t1) = (t1.natAbs : Int) := by split <;> omega
  have n0 : 0 < t1.natAbs := by omega
  simp [m1, m2]
  rw [ea]
  have e2 := L_poly_to (S := .list ([-(t0 * sg), (l.b : Int) * sg].map .int)) (ts := [-(t0 * sg), (l.b : Int) * sg]) (b := t1.natAbs) (P := P) (.inl rfl) n0 (Nat.lt_of_lt_of_le s1 (Nat.pow_le_pow_right (by omega) (by omega))) (by simp) ?_
  · exact e2
  · have c0 : l.co 0 = (t0 : Rat) / ((l.b : Int) : Rat) := by unfold Pol.co; rw [e, divInt_div]; rfl
    have c1 : l.co 1 = (t1 : Rat) / ((l.b : Int) : Rat) := by unfold Pol.co; rw [e, divInt_div]; rfl
    have : NW.mk [-(t0 * sg), (l.b : Int) * sg] t1.natAbs = l.inv := Pol.ext_ev fun x => by
      unfold Pol.inv
      rw [ev_mk n0, ev_lin, c0, c1]
      simp only [evZ]
      have zb := l.bne
      have z1 : (t1 : Rat) ≠ 0 := fun e => hz (Rat.intCast_eq_zero_iff.mp e)
      rcases hsv with ⟨hp, rfl⟩ | ⟨hp, rfl⟩
      · have : (t1.natAbs : Int) = t1 := by omega
        rw [this]
        simp
        grind
      · have : (t1.natAbs : Int) = -t1 := by omega
        rw [this]
        simp
        grind
    rw [this]; exact hP
end NW

namespace NW
open PySem PySem.Spec PyProof.Rows L2
/-! ### drawn fractions, powers of fractions, the polynomials of turned angles -/
theorem L_number_to {f : Fl} (hf : FlOk f) {most : Int} (h0 : 0 ≤ most) (h1 : most ≤ 10 ^ 40) : (m_L_number [.int most] f).To fun d f' => ∃ i, d = .int i ∧ -most ≤ i ∧ i ≤ most ∧ FlOk f' := by
  unfold m_L_number
  rw [flow_to]
  unfold b_L_number
  have mc : mulC 2 most = true := mulC_of (a := 2) (b := 140) (by decide) (by omega) (by omega) (by omega) (by omega)
  simp [startL, mc]
  refine (pickx (b := 200) hf (by omega) (by omega) (by omega) (by omega)).mono ?_
  rintro _ g1 ⟨i, rfl, i1, i2, o1⟩
  simp
  exact ⟨by omega, by omega, o1⟩
theorem pw_le {a b : Nat} (h : a ≤ b) : 2 ^ a ≤ 2 ^ b := Nat.pow_le_pow_right (by omega) h
theorem any_fraction_to {f : Fl} (hf : FlOk f) {most : Int} {n : Nat} (h0 : 1 ≤ most) (h1 : most ≤ 10 ^ 40) (hn : most < 2 ^ n) (h2 : 2 ≤ n) (h3 : n ≤ 8000) : (m_L_any_fraction [.int most] f).To fun d f' => ∃ q, d = fracD q ∧ FB n q ∧ FlOk f' := by
  unfold m_L_any_fraction
  rw [flow_to]
  unfold b_L_any_fraction
  have hc : ((2 ^ n : Nat) : Int) = 2 ^ n := by simp
  have h4 : 2 ^ 2 ≤ 2 ^ n := pw_le h2
  simp [startL]
  refine (L_number_to hf (by omega) h1).mono ?_
  rintro _ g1 ⟨v, rfl, v1, v2, o1⟩
  refine (pick_to o1 (by omega) (by omega)).mono ?_
  rintro _ g2 ⟨i, rfl, i1, i2, o2⟩
  refine ixl_to (p := fun x => ∃ j : Int, x = .int j ∧ 1 ≤ j ∧ (j ≤ most ∨ j ≤ 3)) i1 i2 (by simp; omega) ?_
  rintro _ ⟨m, rfl, m0, m1⟩
  simp
  refine (pickx (b := 200) o2 (by omega) (by omega) (by omega) (by omega)).mono ?_
  rintro _ g3 ⟨u, rfl, u1, u2, o3⟩
  simp
  have bu : (1 + u).natAbs < 2 ^ n := by omega
  refine L_fraction_to (by omega) (Nat.lt_of_lt_of_le bu (pw_le (by omega))) ?_
  exact ⟨_, rfl, FB.of_divInt (by omega) (by omega) bu, o3⟩
theorem L_divided_eq : m_L_divided = m_divided := by
  unfold m_L_divided m_divided b_L_divided b_divided
  rw [L_fraction_eq]
theorem L_added_eq : m_L_added = m_added := by
  unfold m_L_added m_added b_L_added b_added
  rw [L_fraction_eq]
theorem L_product_eq : m_L_product = m_multiplied := by
  unfold m_L_product m_multiplied b_L_product b_multiplied
  rw [L_fraction_eq]
theorem FB.pow {r : Rat} {b : Nat} (hr : FB b r) : ∀ {k : Nat}, FB (k * b + 1) (r ^ k)
  | 0 => by
    have e : r ^ 0 = 1 := by grind
    rw [e]; exact FB.one (by omega)
  | k + 1 => by
    have e : r ^ (k + 1) = r ^ k * r := by grind
    rw [e, Nat.add_mul, Nat.one_mul]
    exact (FB.mul2 (FB.pow hr (k := k)) hr).mono (by omega)
theorem evZ_div_FB {r : Rat} {n b B : Nat} (h0 : 0 < n) (hr : FB b r) {ts : List Int} (ht : ∀ t, t ∈ ts → t.natAbs < 2 ^ n) (hB0 : 0 < B) (hB : B < 2 ^ n) : FB (n + ts.length * (b + 1) + n) (evZ ts r / ((B : Int) : Rat)) := by
  have sz := evZ_FB h0 hr ht
  have e3 : evZ ts r / ((B : Int) : Rat) = evZ ts r * Rat.divInt 1 B := by
    rw [divInt_div]
    grind
  rw [e3]
  have e2 : 2 ≤ 2 ^ n := Nat.le_self_pow (by omega) 2
  have : FB n (Rat.divInt 1 B) := FB.of_divInt (by omega) (by show 1 < _; omega) (by simpa using hB)
  exact (sz.mul2 this).mono (by omega)
theorem ipow_lt {t : Int} {b : Nat} (h : t.natAbs < 2 ^ b) : ∀ {k : Nat}, (t ^ k).natAbs < 2 ^ (k * b + 1)
  | 0 => by simp
  | k + 1 => by
    rw [Int.pow_succ, Int.natAbs_mul, Nat.add_mul, Nat.one_mul, show k * b + b + 1 = (k * b + 1) + b by omega, Nat.pow_add 2 (k * b + 1) b]
    exact Nat.mul_lt_mul'' (ipow_lt h) h
theorem grown_to {t : Int} {k b : Nat} {P : PyData → Prop} (ht : t.natAbs < 2 ^ b) (hk : k ≤ 1000) (hb : k * b + 1 + b ≤ 8999) (h : P (.int (t ^ k))) : (m_L_grown [.int t, .int k]).To P := by
  unfold m_L_grown
  rw [pure_to]
  unfold b_L_grown
  simp [startL]
  refine ⟨decide_eq_true (by omega), ?_⟩
  rw [range_map]
  obtain ⟨I, hI⟩ : ∃ I : Nat → NW.Loc → Sto → Prop, ∀ j l s, I j l s ↔ ∃ (v : Option U), l = [some (.d (.int t)), some (.d (.int k)), some (.d (.int (t ^ j))), v] ∧ s = ⟨none, []⟩ := ⟨_, fun _ _ _ => Iff.rfl⟩
  refine for_ix I (fun _ _ _ _ => chk_nil) ((hI _ _ _).mpr ⟨none, by simp, rfl⟩) ?_ ?_
  · rintro j x l s hx h'
    obtain ⟨v, rfl, rfl⟩ := (hI _ _ _).mp h'
    have hj := (List.getElem?_eq_some_iff.mp hx).1
    simp at hj
    have e1 : j * b ≤ k * b := Nat.mul_le_mul_right _ (by omega)
    have mc : mulC (t ^ j) t = true := mx (ipow_lt ht) ht (by omega)
    simp [mc]
    rw [← Int.pow_succ]
    exact (hI _ _ _).mpr ⟨_, rfl, rfl⟩
  · intro l s h'
    obtain ⟨v, rfl, rfl⟩ := (hI _ _ _).mp h'
    simp
    exact h
theorem raised_2_to {r : Rat} {k b : Nat} {P : PyData → Prop} (hr : FB b r) (hk : k ≤ 1000) (hb : k * b + 1 + b ≤ 8999) (h : P (fracD (r ^ k))) : (m_L_raised_2 [fracD r, .int k]).To P := by
  unfold m_L_raised_2
  rw [pure_to]
  unfold b_L_raised_2
  simp [startL]
  refine grown_to hr.1 hk hb ?_
  refine grown_to hr.2 hk hb ?_
  have e : PyData.tuple [.int (r.num ^ k), .int ((r.den : Int) ^ k)] = fracD (r ^ k) := by
    unfold fracD; rw [Rat.num_pow, Rat.den_pow, Int.natCast_pow]
  rw [e]; exact h
theorem worked_2_to {p : Pol} {r : Rat} {n m b : Nat} {P : PyData → Prop} (hp : PBt n m p) (hr : FB b r) (h0 : 0 < n) (hn : 3 * n + m * (b + 1) + b ≤ 8999) (h : P (fracD (p.ev r))) : (m_L_worked_2 [polyD p, fracD r]).To P := by
  unfold m_L_worked_2
  rw [pure_to]
  unfold b_L_worked_2
  have hpl := hp.1
  have hb9 : p.b < 2 ^ 8999 := Nat.lt_of_lt_of_le hp.2.1 (pw_le (by omega))
  have hpb := p.hb
  simp [startL]
  rw [fracD_0]
  obtain ⟨I, hI⟩ : ∃ I : List Int → NW.Loc → Sto → Prop, ∀ us l s, I us l s ↔ ∃ (v : Option U), l = [some (.d (polyD p)), some (.d (fracD r)), some (.d (fracD (evZ us r / ((p.b : Int) : Rat)))), v] ∧ s = ⟨none, []⟩ := ⟨_, fun _ _ _ => Iff.rfl⟩
  refine for_rev I (fun _ _ _ _ => chk_nil) ((hI _ _ _).mpr ⟨none, ?_, rfl⟩) ?_ ?_
  · have : evZ [] r / ((p.b : Int) : Rat) = 0 := by simp [evZ]; grind
    rw [this]
  · rintro as u us l s e h
    obtain ⟨v, rfl, rfl⟩ := (hI _ _ _).mp h
    have hul : us.length + 1 ≤ m := by
      have := congrArg List.length e
      simp at this; omega
    have hu := hp.2.2 u (by rw [e]; simp)
    have e1 : (us.length) * (b + 1) ≤ m * (b + 1) := Nat.mul_le_mul_right _ (by omega)
    have sz := evZ_div_FB h0 hr (ts := us) (fun t ht => hp.2.2 t (by rw [e]; simp [ht])) hpb hp.2.1
    have szt : FB n (Rat.divInt u p.b) := FB.of_divInt (by omega) hu (by simpa using hp.2.1)
    simp
    rw [L_product_eq, L_added_eq]
    refine multipliedx sz hr (by omega) ?_
    refine L_fraction_to (by omega) (by simpa using hb9) ?_
    refine addedx (sz.mul2 hr) szt (by omega) ?_
    rw [show evZ us r / ((p.b : Int) : Rat) * r + Rat.divInt u p.b = evZ (u :: us) r / ((p.b : Int) : Rat) by rw [evZ, divInt_div]; grind]
    exact (hI _ _ _).mpr ⟨_, rfl, rfl⟩
  · intro l s h'
    obtain ⟨v, rfl, rfl⟩ := (hI _ _ _).mp h'
    simp
    exact h
/-! turned -/
def Pol.tu (A : Rat) : Nat → Pol
  | 0 => NW.mk [2] 1
  | 1 => Pol.X
  | n + 2 => Pol.X * Pol.tu A (n + 1) - (Pol.tu A n).sc A
theorem ev_tu0 {A x : Rat} : (Pol.tu A 0).ev x = 2 := by rw [Pol.tu, ev_mk (by decide)]; simp [evZ]; grind
theorem ev_tu1 {A x : Rat} : (Pol.tu A 1).ev x = x := ev_X
theorem ev_tu2 {A x : Rat} {n : Nat} : (Pol.tu A (n + 2)).ev x = x * (Pol.tu A (n + 1)).ev x - A * (Pol.tu A n).ev x := by rw [Pol.tu, ev_sub, ev_mul, ev_sc, ev_X]; grind
theorem tu_prod {A x : Rat} : ∀ (k a : Nat), (Pol.tu A k).ev x * (Pol.tu A (a + k)).ev x = (Pol.tu A (a + 2 * k)).ev x + A ^ k * (Pol.tu A a).ev x
  | 0, a => by rw [ev_tu0]; simp; grind
  | 1, a => by
    rw [ev_tu1, show a + 2 * 1 = a + 2 by omega, ev_tu2]; grind
  | k + 2, a => by
    have h1 := tu_prod (A := A) (x := x) (k + 1) (a + 1)
    have h2 := tu_prod (A := A) (x := x) k (a + 2)
    have e1 : a + 1 + (k + 1) = a + (k + 2) := by omega
    have e2 : a + 2 + k = a + (k + 2) := by omega
    have e3 : a + 1 + 2 * (k + 1) = a + 2 * k + 2 + 1 := by omega
    have e4 : a + 2 + 2 * k = a + 2 * k + 2 := by omega
    have e5 : a + 2 * (k + 2) = a + 2 * k + 2 + 2 := by omega
    rw [e1, e3] at h1
    rw [e2, e4] at h2
    have q1 := ev_tu2 (A := A) (x := x) (n := a + 2 * k + 2)
    have q2 := ev_tu2 (A := A) (x := x) (n := a)
    rw [e5, q1, ev_tu2 (n := k)]
    grind
theorem tu_comp {A : Rat} {k : Nat} : ∀ (m : Nat), (Pol.tu (A ^ k) m).comp (Pol.tu A k) = Pol.tu A (m * k)
  | 0 => Pol.ext_ev fun x => by rw [ev_comp, ev_tu0, Nat.zero_mul, ev_tu0]
  | 1 => Pol.ext_ev fun x => by rw [ev_comp, ev_tu1, Nat.one_mul]
  | m + 2 => Pol.ext_ev fun x => by
    have h1 := congrArg (fun p => Pol.ev p x) (tu_comp (A := A) (k := k) (m + 1))
    have h2 := congrArg (fun p => Pol.ev p x) (tu_comp (A := A) (k := k) m)
    have h3 := tu_prod (A := A) (x := x) k (m * k)
    simp only [ev_comp] at h1 h2
    have e1 : (m + 1) * k = m * k + k := by rw [Nat.add_mul, Nat.one_mul]
    have e2 : (m + 2) * k = m * k + 2 * k := by rw [Nat.add_mul]
    rw [ev_comp, ev_tu2, h1, h2, e1, e2]
    grind
theorem tu_sum {A y : Rat} (hy : y ≠ 0) : ∀ (n : Nat), (Pol.tu A n).ev (y + A / y) = y ^ n + (A / y) ^ n
  | 0 => by rw [ev_tu0]; grind
  | 1 => by rw [ev_tu1]; grind
  | n + 2 => by
    rw [ev_tu2, tu_sum hy (n + 1), tu_sum hy n]
    have e : A = y * (A / y) := by grind
    generalize A / y = z at e
    subst e
    grind
theorem BZ.scale {A B : Nat} {c : Int} {ts : List Int} (h : BZ A ts) (hc : c.natAbs ≤ B) : BZ (B * A) (ts.map fun t => c * t) := fun w hw => by
  obtain ⟨t, ht, rfl⟩ := List.mem_map.mp hw
  rw [Int.natAbs_mul]
  exact Nat.mul_le_mul hc (h t ht)
theorem tu_rep {A : Rat} {b : Nat} (hA : FB b A) : ∀ (n : Nat), ∃ ts : List Int, (∀ x, (Pol.tu A n).ev x = evZ ts x / (((A.den ^ n : Nat) : Int) : Rat)) ∧ ts.length ≤ n + 1 ∧ BZ (2 ^ ((b + 1) * n + 1)) ts
  | 0 => ⟨[2], fun x => by rw [ev_tu0]; simp [evZ]; grind, by simp, by simp [BZ]⟩
  | 1 => ⟨[0, (A.den : Int)], fun x => by
      rw [ev_tu1]
      have : ((A.den : Int) : Rat) ≠ 0 := fun e => den_ne A (Rat.intCast_eq_zero_iff.mp e)
      simp [evZ]
      grind, by simp, by
      have := hA.2
      have h2 : 2 ^ b ≤ 2 ^ ((b + 1) * 1 + 1) := pw_le (by omega)
      intro t ht
      simp at ht
      rcases ht with rfl | rfl
      · simp
      · simp; omega⟩
  | n + 2 => by
    obtain ⟨ts, e1, l1, s1⟩ := tu_rep hA n
    obtain ⟨us, e2, l2, s2⟩ := tu_rep hA (n + 1)
    refine ⟨addZ (0 :: us.map fun t => (A.den : Int) * t) (ts.map fun t => (-(A.num * A.den)) * t), fun x => ?_, addZ_len (by simp; omega) (by simp; omega), ?_⟩
    · rw [ev_tu2, e1, e2, evZ_addZ, evZ_mul, evZ, evZ_mul]
      have h1 : ((A.den : Int) : Rat) ≠ 0 := fun e => den_ne A (Rat.intCast_eq_zero_iff.mp e)
      have h2 : (((A.den ^ n : Nat) : Int) : Rat) ≠ 0 := fun e => by
        have := Rat.intCast_eq_zero_iff.mp e
        have := Nat.pow_pos (n := n) A.den_pos
        omega
      have h3 : (((A.den ^ (n + 1) : Nat) : Int) : Rat) = (((A.den ^ n : Nat) : Int) : Rat) * ((A.den : Int) : Rat) := by rw [Nat.pow_succ, Int.natCast_mul, Rat.intCast_mul]
      have h4 : (((A.den ^ (n + 2) : Nat) : Int) : Rat) = (((A.den ^ n : Nat) : Int) : Rat) * ((A.den : Int) : Rat) * ((A.den : Int) : Rat) := by rw [Nat.pow_succ, Int.natCast_mul, Rat.intCast_mul, h3]
      have eA := Rat.num_divInt_den A
      rw [divInt_div] at eA
      rw [h3, h4, Rat.intCast_neg, Rat.intCast_mul]
      generalize evZ ts x = u
      generalize evZ us x = v
      conv => lhs; rw [← eA]
      simp
      grind
    · have z0 : BZ (2 ^ b * 2 ^ ((b + 1) * (n + 1) + 1)) (0 :: us.map fun t => (A.den : Int) * t) := fun w hw => by
        rcases List.mem_cons.mp hw with rfl | hw
        · simp
        · exact s2.scale (by have := hA.2; omega) w hw
      have z1 := s1.scale (c := -(A.num * A.den)) (B := 2 ^ b * 2 ^ b) (by
        rw [Int.natAbs_neg, Int.natAbs_mul]
        exact Nat.mul_le_mul (Nat.le_of_lt hA.1) (Nat.le_of_lt hA.2))
      have z := z0.add z1
      refine fun w hw => Nat.le_trans (z w hw) ?_
      have q1 : (b + 1) * (n + 1) = (b + 1) * n + b + 1 := by rw [Nat.mul_add]; omega
      have q2 : (b + 1) * (n + 2) = (b + 1) * n + 2 * b + 2 := by rw [Nat.mul_add]; omega
      rw [← Nat.pow_add, ← Nat.pow_add, ← Nat.pow_add]
      have p1 : 2 ^ (b + ((b + 1) * (n + 1) + 1)) ≤ 2 ^ ((b + 1) * n + 2 * b + 2) := pw_le (by omega)
      have p2 : 2 ^ (b + b + ((b + 1) * n + 1)) ≤ 2 ^ ((b + 1) * n + 2 * b + 2) := pw_le (by omega)
      have p3 : 2 ^ ((b + 1) * (n + 2) + 1) = 2 * 2 ^ ((b + 1) * n + 2 * b + 2) := by
        rw [q2, Nat.pow_succ, Nat.mul_comm]
      omega
theorem PBt.tu {A : Rat} {b : Nat} (hA : FB b A) (n : Nat) : PBt ((b + 1) * n + 2) (n + 1) (Pol.tu A n) := by
  obtain ⟨ts, e, hl, hs⟩ := tu_rep hA n
  have hp := Nat.pow_pos (n := n) A.den_pos
  have : Pol.tu A n = NW.mk ts (A.den ^ n) := Pol.ext_ev fun x => by rw [e, ev_mk hp]
  rw [this]
  refine PBt.mk hp hl ?_ fun t ht => ?_
  · have h1 : A.den ^ n ≤ (2 ^ b) ^ n := Nat.pow_le_pow_left (Nat.le_of_lt hA.2) n
    rw [← Nat.pow_mul] at h1
    have h2 : 2 ^ (b * n) < 2 ^ ((b + 1) * n + 2) := Nat.pow_lt_pow_right (by omega) (by rw [Nat.add_mul]; omega)
    omega
  · refine Nat.lt_of_le_of_lt (hs t ht) (Nat.pow_lt_pow_right (by omega) (by omega))
theorem turned_to {A : Rat} {n b : Nat} {P : PyData → Prop} (hA : FB b A) (hb : b ≤ 200) (hn : n ≤ 12) (h : P (polyD (Pol.tu A n))) : (m_turned [.int n, fracD A]).To P := by
  unfold m_turned
  rw [pure_to]
  unfold b_turned
  simp [startL]
  refine ⟨decide_eq_true (by omega), ?_⟩
  rw [range_map]
  obtain ⟨I, hI⟩ : ∃ I : Nat → NW.Loc → Sto → Prop, ∀ j l s, I j l s ↔ ∃ (v : Option U), l = [some (.d (.int n)), some (.d (fracD A)), some (.d (polyD (Pol.tu A j))), some (.d (polyD (Pol.tu A (j + 1)))), v] ∧ s = ⟨none, []⟩ := ⟨_, fun _ _ _ => Iff.rfl⟩
  refine for_ix I (fun _ _ _ _ => chk_nil) ((hI _ _ _).mpr ⟨none, rfl, rfl⟩) ?_ ?_
  · rintro j x l s hx h'
    obtain ⟨v, rfl, rfl⟩ := (hI _ _ _).mp h'
    have hj := (List.getElem?_eq_some_iff.mp hx).1
    simp at hj
    have s1 := PBt.tu hA j
    have s2 := PBt.tu hA (j + 1)
    have q1 : (b + 1) * j ≤ 201 * 12 := Nat.mul_le_mul (by omega) (by omega)
    have q2 : (b + 1) * (j + 1) ≤ 201 * 12 := Nat.mul_le_mul (by omega) (by omega)
    have eX : (c_LETTER : PyData) = polyD Pol.X := rfl
    simp
    rw [eX]
    refine timesx PBt.X s2 (by omega) (by omega) (by omega) ?_
    refine scaledx s1 hA (by omega) (by omega) ?_
    refine minusx (m := j + 4) ((PBt.X.mul s2 (by omega)).mono (Nat.le_refl _) (by omega)) ((s1.sc hA).mono (Nat.le_refl _) (by omega)) (by omega) (by omega) ?_
    exact (hI _ _ _).mpr ⟨_, rfl, rfl⟩
  · intro l s h'
    obtain ⟨v, rfl, rfl⟩ := (hI _ _ _).mp h'
    simp
    exact h
theorem idx_m2 {n : Nat} (h : 1 < n) : idxN n (-2) = some (n - 2) := by
  unfold idxN
  rw [if_neg (by omega), if_pos (by omega)]
  congr 1; omega
theorem turning_to {A : Rat} {n b : Nat} {P : PyData → Prop} (hA : FB b A) (hb : b ≤ 200) (h1 : 1 ≤ n) (hn : n ≤ 12) (h : P (polyD (Pol.tu A n))) : (m_L_turning [.int n, fracD A]).To P := by
  unfold m_L_turning
  rw [pure_to]
  unfold b_L_turning
  have eT : PyData.tuple [PyData.tuple [PyData.int 2], PyData.int 1] = polyD (Pol.tu A 0) := rfl
  have eX : PyData.tuple [PyData.tuple [PyData.int 0, PyData.int 1], PyData.int 1] = polyD (Pol.tu A 1) := rfl
  simp [startL]
  rw [eT, eX]
  have en : ((n : Int) - 1).toNat = n - 1 := by omega
  refine ⟨decide_eq_true (by omega), ?_⟩
  rw [range_map]
  obtain ⟨I, hI⟩ : ∃ I : Nat → NW.Loc → Sto → Prop, ∀ j l s, I j l s ↔ ∃ (v w : Option U), l = [some (.d (.int n)), some (.d (fracD A)), some (.ref 0), v, w] ∧ s = ⟨none, [.lst ((List.range (j + 2)).map fun i => polyD (Pol.tu A i))]⟩ := ⟨_, fun _ _ _ => Iff.rfl⟩
  refine for_ix I (fun _ _ _ _ => chk_nil) ((hI _ _ _).mpr ⟨none, none, rfl, rfl⟩) ?_ ?_
  · rintro j x l s hx h'
    obtain ⟨v, w, rfl, rfl⟩ := (hI _ _ _).mp h'
    have hj := (List.getElem?_eq_some_iff.mp hx).1
    simp at hj
    have s1 := PBt.tu hA j
    have s2 := PBt.tu hA (j + 1)
    have q1 : (b + 1) * j ≤ 201 * 12 := Nat.mul_le_mul (by omega) (by omega)
    have q2 : (b + 1) * (j + 1) ≤ 201 * 12 := Nat.mul_le_mul (by omega) (by omega)
    have sA : PBt (b + 1) 1 (NW.mk [-A.num] A.den) := PBt.mk A.den_pos (by simp) (Nat.lt_of_lt_of_le hA.2 (pw_le (by omega))) (fun t ht => by
      simp at ht; subst ht; rw [Int.natAbs_neg]; exact Nat.lt_of_lt_of_le hA.1 (pw_le (by omega)))
    have g1 : ((List.range (j + 2)).map fun i => polyD (Pol.tu A i))[j]? = some (polyD (Pol.tu A j)) := by rw [List.getElem?_map, List.getElem?_range (by omega)]; rfl
    have g2 : ((List.range (j + 2)).map fun i => polyD (Pol.tu A i))[j + 1]? = some (polyD (Pol.tu A (j + 1))) := by rw [List.getElem?_map, List.getElem?_range (by omega)]; rfl
    generalize hL : ((List.range (j + 2)).map fun i => polyD (Pol.tu A i)) = L at g1 g2
    have hLl : L.length = j + 2 := by rw [← hL]; simp
    have i1 : idxN L.length (-1) = some (j + 1) := by rw [idx_end (by omega), hLl]; rfl
    have i2 : idxN L.length (-2) = some j := by rw [idx_m2 (by omega), hLl]; rfl
    simp [i2, g1]
    refine L_poly_to (ts := [-A.num]) (.inl rfl) A.den_pos (Nat.lt_of_lt_of_le hA.2 (pw_le (by omega))) (by simp) ?_
    refine L_timesx s1 sA (by omega) (by omega) (by omega) ?_
    simp [i1, g2]
    rw [polyD_X]
    refine L_timesx PBt.X s2 (by omega) (by omega) (by omega) ?_
    refine L_sumx (m := j + 4) ((PBt.X.mul s2 (by omega)).mono (Nat.le_refl _) (by omega)) ((s1.mul sA (by omega)).mono (Nat.le_refl _) (by omega)) (by omega) (by omega) ?_
    have ee : Pol.X * Pol.tu A (j + 1) + Pol.tu A j * NW.mk [-A.num] A.den = Pol.tu A (j + 2) := Pol.ext_ev fun x => by
      rw [ev_add, ev_mul, ev_mul, ev_mk A.den_pos, ev_X, ev_tu2]
      have eA := Rat.num_divInt_den A
      rw [divInt_div] at eA
      have : ((A.den : Int) : Rat) ≠ 0 := fun e => den_ne A (Rat.intCast_eq_zero_iff.mp e)
      simp only [evZ]
      conv => rhs; rw [← eA]
      simp
      grind
    rw [ee]
    refine ⟨by omega, (hI _ _ _).mpr ⟨_, _, rfl, ?_⟩⟩
    rw [← hL, List.range_succ (n := j + 2), List.map_append]
    rfl
  · intro l s h'
    obtain ⟨v, w, rfl, rfl⟩ := (hI _ _ _).mp h'
    simp
    have e1 : n - 1 + 2 = n + 1 := by omega
    rw [idxN_nat (show n < n - 1 + 2 by omega)]
    refine ⟨polyD (Pol.tu A n), ?_, h⟩
    show Option.map (fun i => polyD (Pol.tu A i)) (List.range (n - 1 + 2))[n]? = _
    rw [List.getElem?_range (by omega)]; rfl
@[simp] theorem idx_2 {n : Nat} : idxN (n + 3) 2 = some 2 := by
  unfold idxN
  rw [if_pos (by decide), if_pos (by omega)]; rfl
@[simp] theorem idx_3 {n : Nat} : idxN (n + 4) 3 = some 3 := by
  unfold idxN
  rw [if_pos (by decide), if_pos (by omega)]; rfl
end NW

namespace NW
open PySem PySem.Spec PyProof.Rows L2
/-! ### how great one put into the other is; degrees -/
def hzL (G : List Int) (B : Nat) : List Int → List Int
  | [] => []
  | [t] => [t]
  | t :: u :: ts => addZ (mulZ (hzL G B (u :: ts)) G) [t * ((B ^ (ts.length + 1) : Nat) : Int)]
theorem ev_hzL {G : List Int} {B : Nat} (hB : 0 < B) {x : Rat} : ∀ {t : Int} {ts : List Int}, evZ (hzL G B (t :: ts)) x = (((B ^ ts.length : Nat) : Int) : Rat) * evZ (t :: ts) (evZ G x / ((B : Int) : Rat))
  | t, [] => by simp [hzL, evZ]
  | t, u :: ts => by
    have hB' : ((B : Int) : Rat) ≠ 0 := fun e => by have := Rat.intCast_eq_zero_iff.mp e; omega
    have e : hzL G B (t :: u :: ts) = addZ (mulZ (hzL G B (u :: ts)) G) [t * ((B ^ (ts.length + 1) : Nat) : Int)] := rfl
    rw [e, evZ_addZ, evZ_mulZ, ev_hzL hB]
    have h3 : (((B ^ (ts.length + 1) : Nat) : Int) : Rat) = (((B ^ ts.length : Nat) : Int) : Rat) * ((B : Int) : Rat) := by rw [Nat.pow_succ, Int.natCast_mul, Rat.intCast_mul]
    have e5 : evZ [t * ((B ^ (ts.length + 1) : Nat) : Int)] x = (t : Rat) * (((B ^ (ts.length + 1) : Nat) : Int) : Rat) := by
      rw [← Rat.intCast_mul]; simp only [evZ]; grind
    have e6 : ∀ y : Rat, evZ (t :: u :: ts) y = t + y * evZ (u :: ts) y := fun y => rfl
    rw [e5, e6, List.length_cons, h3]
    have e7 : evZ G x = ((B : Int) : Rat) * (evZ G x / ((B : Int) : Rat)) := by grind
    generalize evZ G x / ((B : Int) : Rat) = y at e7
    rw [e7]
    generalize evZ (u :: ts) y = w
    generalize (((B ^ ts.length : Nat) : Int) : Rat) = c
    grind
theorem hzL_len {G : List Int} {B : Nat} : ∀ {t : Int} {ts : List Int}, (hzL G B (t :: ts)).length ≤ ts.length * G.length + 1
  | t, [] => by simp [hzL]
  | t, u :: ts => by
    have ih := hzL_len (G := G) (B := B) (t := u) (ts := ts)
    have e : hzL G B (t :: u :: ts) = addZ (mulZ (hzL G B (u :: ts)) G) [t * ((B ^ (ts.length + 1) : Nat) : Int)] := rfl
    rw [e, List.length_cons, Nat.add_mul, Nat.one_mul]
    have := mulZ_len (ts := hzL G B (u :: ts)) (us := G)
    exact addZ_len (by omega) (by simp)
theorem hzL_BZ {G : List Int} {B n n2 m : Nat} (hB : B < 2 ^ n2) (hG : ∀ u, u ∈ G → u.natAbs < 2 ^ n2) (hm : G.length ≤ m) : ∀ {t : Int} {ts : List Int}, (∀ u, u ∈ t :: ts → u.natAbs < 2 ^ n) → ts.length * m + 1 ≤ 1000 → BZ (2 ^ (n + ts.length * (n2 + 11))) (hzL G B (t :: ts))
  | t, [], ht, _ => by
    intro u hu
    have := ht u hu
    simp; omega
  | t, u :: ts, ht, hl => by
    rw [List.length_cons, Nat.add_mul, Nat.one_mul] at hl
    have ih := hzL_BZ hB hG hm (t := u) (ts := ts) (fun v hv => ht v (List.mem_cons_of_mem _ hv)) (by omega)
    have e : hzL G B (t :: u :: ts) = addZ (mulZ (hzL G B (u :: ts)) G) [t * ((B ^ (ts.length + 1) : Nat) : Int)] := rfl
    have hlen := hzL_len (G := G) (B := B) (t := u) (ts := ts)
    have hlm : ts.length * G.length ≤ ts.length * m := Nat.mul_le_mul_left _ hm
    rw [e]
    have z1 := ih.mul (us := G) (B := 2 ^ n2) fun v hv => Nat.le_of_lt (hG v hv)
    have z2 : BZ (2 ^ n * 2 ^ (n2 * (ts.length + 1))) [t * ((B ^ (ts.length + 1) : Nat) : Int)] := fun v hv => by
      have hv' : v = t * ((B ^ (ts.length + 1) : Nat) : Int) := by simpa using hv
      subst hv'
      rw [Int.natAbs_mul, Int.natAbs_natCast, Nat.pow_mul]
      exact Nat.mul_le_mul (Nat.le_of_lt (ht t (by simp))) (Nat.pow_le_pow_left (Nat.le_of_lt hB) _)
    have z := z1.add z2
    refine fun v hv => Nat.le_trans (z v hv) ?_
    rw [List.length_cons, ← Nat.pow_add, ← Nat.pow_add]
    have q1 : n2 * (ts.length + 1) = n2 * ts.length + n2 := by rw [Nat.mul_add]; omega
    have q2 : ts.length * (n2 + 11) = n2 * ts.length + 11 * ts.length := by rw [Nat.mul_add, Nat.mul_comm, Nat.mul_comm ts.length 11]
    have q3 : (ts.length + 1) * (n2 + 11) = n2 * ts.length + 11 * ts.length + n2 + 11 := by rw [Nat.add_mul, q2]; omega
    rw [q1, q2, q3]
    have p1 : (hzL G B (u :: ts)).length * 2 ^ (n + (n2 * ts.length + 11 * ts.length) + n2) ≤ 1000 * 2 ^ (n + (n2 * ts.length + 11 * ts.length) + n2) := Nat.mul_le_mul_right _ (by omega)
    have p2 : 2 ^ (n + (n2 * ts.length + n2)) ≤ 2 ^ (n + (n2 * ts.length + 11 * ts.length) + n2) := pw_le (by omega)
    have p3 : 2 ^ (n + (n2 * ts.length + 11 * ts.length + n2 + 11)) = 2048 * 2 ^ (n + (n2 * ts.length + 11 * ts.length) + n2) := by
      rw [show n + (n2 * ts.length + 11 * ts.length + n2 + 11) = (n + (n2 * ts.length + 11 * ts.length) + n2) + 11 by omega, Nat.pow_add, Nat.mul_comm]
    omega
theorem hz_sz3 {b n n2 m : Nat} {g : Pol} (hb : 0 < b) (hbn : b < 2 ^ n) (hg : PBt n2 m g) {t : Int} {ts : List Int} (ht : ∀ u, u ∈ t :: ts → u.natAbs < 2 ^ n) (hl : ts.length * m + 1 ≤ 1000) : PBt (n + ts.length * (n2 + 11) + 1) (ts.length * m + 1) (hz b g (t :: ts)) := by
  have hgb := g.hb
  have hp := Nat.pow_pos (n := ts.length) hgb
  have eq : hz b g (t :: ts) = NW.mk (hzL g.ts g.b (t :: ts)) (b * g.b ^ ts.length) := Pol.ext_ev fun x => by
    rw [ev_hz hb, ev_mk (Nat.mul_pos hb hp), ev_hzL hgb, Int.natCast_mul, Rat.intCast_mul]
    have h1 : ((b : Int) : Rat) ≠ 0 := fun e => by have := Rat.intCast_eq_zero_iff.mp e; omega
    have h2 : (((g.b ^ ts.length : Nat) : Int) : Rat) ≠ 0 := fun e => by have := Rat.intCast_eq_zero_iff.mp e; omega
    show evZ (t :: ts) (evZ g.ts x / ((g.b : Int) : Rat)) / ((b : Int) : Rat) = _
    generalize evZ (t :: ts) (evZ g.ts x / ((g.b : Int) : Rat)) = w
    grind
  rw [eq]
  have hlm : ts.length * g.ts.length ≤ ts.length * m := Nat.mul_le_mul_left _ hg.1
  refine PBt.mk (Nat.mul_pos hb hp) (Nat.le_trans hzL_len (by omega)) ?_ fun u hu => ?_
  · have h1 : g.b ^ ts.length ≤ (2 ^ n2) ^ ts.length := Nat.pow_le_pow_left (Nat.le_of_lt hg.2.1) _
    rw [← Nat.pow_mul] at h1
    have h2 : b * g.b ^ ts.length ≤ 2 ^ n * 2 ^ (n2 * ts.length) := Nat.mul_le_mul (Nat.le_of_lt hbn) h1
    rw [← Nat.pow_add] at h2
    have h3 : 2 ^ (n + n2 * ts.length) < 2 ^ (n + ts.length * (n2 + 11) + 1) := Nat.pow_lt_pow_right (by omega) (by rw [Nat.mul_add, Nat.mul_comm ts.length n2]; omega)
    omega
  · refine Nat.lt_of_le_of_lt (hzL_BZ hg.2.1 hg.2.2 hg.1 ht hl u hu) (Nat.pow_lt_pow_right (by omega) (by omega))
theorem PBt.comp3 {n n2 m1 m : Nat} {f g : Pol} (h0 : 0 < n) (hf : PBt n m1 f) (hg : PBt n2 m g) (hl : (m1 - 1) * m + 1 ≤ 1000) : PBt (n + (m1 - 1) * (n2 + 11) + 1) ((m1 - 1) * (m - 1) + 1) (f.comp g) := by
  have h3 : (f.ts.length - 1) * (g.ts.length - 1) ≤ (m1 - 1) * (m - 1) := Nat.mul_le_mul (by have := hf.1; omega) (by have := hg.1; omega)
  refine ⟨Nat.le_trans comp_len (by omega), ?_⟩
  have hfl := hf.1
  have h12 := hf.2
  unfold Pol.comp
  generalize hts : f.ts = ts at hfl h12
  cases ts with
  | nil => rw [hz]; exact (PBt.zero.mono (n' := n + (m1 - 1) * (n2 + 11) + 1) (m' := 1) (by omega) (by omega)).2
  | cons t ts =>
    simp only [List.length_cons] at hfl
    have h1 : ts.length * m ≤ (m1 - 1) * m := Nat.mul_le_mul_right _ (by omega)
    have h2 : ts.length * (n2 + 11) ≤ (m1 - 1) * (n2 + 11) := Nat.mul_le_mul_right _ (by omega)
    exact ((hz_sz3 f.hb h12.1 hg h12.2 (by omega)).mono (n' := n + (m1 - 1) * (n2 + 11) + 1) (m' := 1000) (by omega) (by omega)).2
theorem put3 {f g : Pol} {n n2 m1 m : Nat} {P : PyData → Prop} (h0 : 0 < n) (hf : PBt n m1 f) (hg : PBt n2 m g) (hm : m ≤ 1000) (hl : (m1 - 1) * m + 1 ≤ 1000) (hn : (m1 - 2) * (n2 + 11) + 2 * n + n2 + 11 ≤ 8999) (h : P (polyD (f.comp g))) : (m_put [polyD f, polyD g]).To P := by
  unfold m_put
  rw [pure_to]
  unfold b_put
  have hfl := hf.1
  have hfb := f.hb
  have hb9 : f.b < 2 ^ 8999 := Nat.lt_of_lt_of_le hf.2.1 (Nat.pow_le_pow_right (by omega) (by omega))
  simp [startL]
  obtain ⟨I, hI⟩ : ∃ I : List Int → NW.Loc → Sto → Prop, ∀ us l s, I us l s ↔ ∃ (v : Option U), l = [some (.d (polyD f)), some (.d (polyD g)), some (.d (polyD (hz f.b g us))), v] ∧ s = ⟨none, []⟩ := ⟨_, fun _ _ _ => Iff.rfl⟩
  refine for_rev I (fun _ _ _ _ => chk_nil) ((hI _ _ _).mpr ⟨none, rfl, rfl⟩) ?_ ?_
  · rintro as u us l s e h
    obtain ⟨v, rfl, rfl⟩ := (hI _ _ _).mp h
    have hul : us.length + 1 ≤ m1 := by
      have := congrArg List.length e
      simp at this; omega
    have ht : ∀ t, t ∈ us → t.natAbs < 2 ^ n := fun t ht => hf.2.2 t (by rw [e]; simp [ht])
    have hu := hf.2.2 u (by rw [e]; simp)
    have s2 : PBt n 1 (mk [u] f.b) := PBt.mk f.hb (by simp) hf.2.1 (by simpa using hu)
    have fin : I (u :: us) [some (U.d (polyD f)), some (U.d (polyD g)), some (U.d (polyD (hz f.b g (u :: us)))), some (U.d (.int u))] ⟨none, []⟩ := (hI _ _ _).mpr ⟨_, rfl, rfl⟩
    cases us with
    | nil =>
      simp
      refine timesx PBt.zero hg (by omega) (by omega) (by omega) ?_
      refine over_to (ts := [u]) (.inl rfl) f.hb hb9 (by simp) ?_
      have ez : Pol.zero * g = Pol.zero := Pol.ext_ev fun x => by rw [ev_mul, ev_zero]; simp
      have e3 : hz f.b g [] * g + mk [u] f.b = hz f.b g [u] := rfl
      have e4 : hz f.b g [] = Pol.zero := rfl
      rw [e4, ez] at e3
      rw [e4, ez]
      refine plusx (m := 1) PBt.zero s2 (by omega) (by omega) ?_
      rw [e3]
      exact fin
    | cons w ws =>
      simp only [List.length_cons] at hul
      have e1 : ws.length * m + m ≤ (m1 - 1) * m := by
        have := Nat.mul_le_mul_right m (show ws.length + 1 ≤ m1 - 1 by omega)
        rwa [Nat.add_mul, Nat.one_mul] at this
      have e2 : ws.length * (n2 + 11) ≤ (m1 - 2) * (n2 + 11) := Nat.mul_le_mul_right (n2 + 11) (by omega)
      have sz := hz_sz3 f.hb hf.2.1 hg (t := w) (ts := ws) ht (by omega)
      have s3 := sz.mul hg (by omega)
      simp
      refine timesx sz hg (by omega) (by omega) (by omega) ?_
      refine over_to (ts := [u]) (.inl rfl) f.hb hb9 (by simp) ?_
      refine plusx (m := ws.length * m + 1 + m) (s3.mono (Nat.le_refl _) (by omega)) (s2.mono (Nat.le_refl _) (by omega)) (by omega) (by omega) ?_
      exact fin
  · intro l s h'
    obtain ⟨v, rfl, rfl⟩ := (hI _ _ _).mp h'
    simp
    exact h
theorem of3 {f g : Pol} {n n2 m1 m : Nat} {P : PyData → Prop} (h0 : 0 < n) (hf : PBt n m1 f) (hg : PBt n2 m g) (hm : m ≤ 1000) (hl : (m1 - 1) * m + 1 ≤ 1000) (hn : (m1 - 2) * (n2 + 11) + 2 * n + n2 + 11 ≤ 8999) (h : P (polyD (f.comp g))) : (m_L_of [polyD f, polyD g]).To P := by
  unfold m_L_of
  rw [pure_to]
  unfold b_L_of
  have hfl := hf.1
  have hfb := f.hb
  have hb9 : f.b < 2 ^ 8999 := Nat.lt_of_lt_of_le hf.2.1 (Nat.pow_le_pow_right (by omega) (by omega))
  simp [startL]
  rw [polyD_zero]
  obtain ⟨I, hI⟩ : ∃ I : List Int → NW.Loc → Sto → Prop, ∀ us l s, I us l s ↔ ∃ (v : Option U), l = [some (.d (polyD f)), some (.d (polyD g)), some (.d (polyD (hz f.b g us))), v] ∧ s = ⟨none, []⟩ := ⟨_, fun _ _ _ => Iff.rfl⟩
  refine for_rev I (fun _ _ _ _ => chk_nil) ((hI _ _ _).mpr ⟨none, rfl, rfl⟩) ?_ ?_
  · rintro as u us l s e h
    obtain ⟨v, rfl, rfl⟩ := (hI _ _ _).mp h
    have hul : us.length + 1 ≤ m1 := by
      have := congrArg List.length e
      simp at this; omega
    have ht : ∀ t, t ∈ us → t.natAbs < 2 ^ n := fun t ht => hf.2.2 t (by rw [e]; simp [ht])
    have hu := hf.2.2 u (by rw [e]; simp)
    have s2 : PBt n 1 (mk [u] f.b) := PBt.mk f.hb (by simp) hf.2.1 (by simpa using hu)
    have fin : I (u :: us) [some (U.d (polyD f)), some (U.d (polyD g)), some (U.d (polyD (hz f.b g (u :: us)))), some (U.d (.int u))] ⟨none, []⟩ := (hI _ _ _).mpr ⟨_, rfl, rfl⟩
    cases us with
    | nil =>
      simp
      refine L_timesx PBt.zero hg (by omega) (by omega) (by omega) ?_
      refine L_poly_to (ts := [u]) (.inl rfl) f.hb hb9 (by simp) ?_
      have ez : Pol.zero * g = Pol.zero := Pol.ext_ev fun x => by rw [ev_mul, ev_zero]; simp
      have e3 : hz f.b g [] * g + mk [u] f.b = hz f.b g [u] := rfl
      have e4 : hz f.b g [] = Pol.zero := rfl
      rw [e4, ez] at e3
      rw [e4, ez]
      refine L_sumx (m := 1) PBt.zero s2 (by omega) (by omega) ?_
      rw [e3]
      exact fin
    | cons w ws =>
      simp only [List.length_cons] at hul
      have e1 : ws.length * m + m ≤ (m1 - 1) * m := by
        have := Nat.mul_le_mul_right m (show ws.length + 1 ≤ m1 - 1 by omega)
        rwa [Nat.add_mul, Nat.one_mul] at this
      have e2 : ws.length * (n2 + 11) ≤ (m1 - 2) * (n2 + 11) := Nat.mul_le_mul_right (n2 + 11) (by omega)
      have sz := hz_sz3 f.hb hf.2.1 hg (t := w) (ts := ws) ht (by omega)
      have s3 := sz.mul hg (by omega)
      simp
      refine L_timesx sz hg (by omega) (by omega) (by omega) ?_
      refine L_poly_to (ts := [u]) (.inl rfl) f.hb hb9 (by simp) ?_
      refine L_sumx (m := ws.length * m + 1 + m) (s3.mono (Nat.le_refl _) (by omega)) (s2.mono (Nat.le_refl _) (by omega)) (by omega) (by omega) ?_
      exact fin
  · intro l s h'
    obtain ⟨v, rfl, rfl⟩ := (hI _ _ _).mp h'
    simp
    exact h
/-! leading fractions and degrees -/
def Pol.deg (p : Pol) : Nat := p.ts.length - 1
theorem co_mul_top {p q : Pol} : (p * q).co (p.deg + q.deg) = p.co p.deg * q.co q.deg := by
  rw [co_mul]
  have key : ∀ (n i : Nat) (f : Nat → Rat), i < n → (∀ j, j < n → j ≠ i → f j = 0) → sm n f = f i := by
    intro n
    induction n with
    | zero => intro i f h; omega
    | succ n ih =>
      intro i f hi hz
      rw [sm]
      by_cases e : i = n
      · subst e
        rw [sm_zero fun k hk => hz k (by omega) (by omega)]; grind
      · rw [ih i f (by omega) fun j hj => hz j (by omega), hz n (by omega) (Ne.symm e)]; grind
  rw [key (p.deg + q.deg + 1) p.deg _ (by omega) fun j hj hne => ?_]
  · congr 1
    congr 1
    omega
  · unfold Pol.deg at *
    by_cases h : p.ts.length ≤ j
    · rw [co_zero_of h]; simp
    · rw [co_zero_of (p := q) (k := p.ts.length - 1 + (q.ts.length - 1) - j) (by omega)]; simp
theorem len_mul {p q : Pol} (hp : p.ts ≠ []) (hq : q.ts ≠ []) : (p * q).ts.length = p.ts.length + q.ts.length - 1 := by
  have h1 := List.length_pos_iff.mpr hp
  have h2 := List.length_pos_iff.mpr hq
  refine Nat.le_antisymm mul_len ?_
  by_cases hl : p.ts.length + q.ts.length - 1 ≤ (p * q).ts.length
  · exact hl
  · exfalso
    have := co_mul_top (p := p) (q := q)
    rw [co_zero_of (by unfold Pol.deg; omega)] at this
    have a := co_lead hp
    have b := co_lead hq
    unfold Pol.deg at this
    grind
/-- the leading fraction of one put into the other -/
theorem hz_top {b : Nat} (hb : 0 < b) {g : Pol} (hg : 2 ≤ g.ts.length) : ∀ (ts : List Int) (t : Int), (hz b g (t :: ts)).co (ts.length * g.deg) = Rat.divInt ((t :: ts).getD ts.length 0) b * g.co g.deg ^ ts.length
  | [], t => by
    rw [hz_one hb, co_mk hb]
    simp
  | u :: ts, t => by
    have ih := hz_top hb hg ts u
    have e : hz b g (t :: u :: ts) = hz b g (u :: ts) * g + mk [t] b := rfl
    have hl := hz_len hb (g := g) (ts := u :: ts)
    simp only [List.length_cons, Nat.add_sub_cancel] at hl
    have hgd : 1 ≤ g.deg := by unfold Pol.deg; omega
    have e1 : (ts.length + 1) * g.deg = ts.length * g.deg + g.deg := by rw [Nat.add_mul, Nat.one_mul]
    rw [e, co_add, co_mk hb, List.length_cons, e1]
    have z : ([t] : List Int).getD (ts.length * g.deg + g.deg) 0 = 0 := by
      rw [List.getD_eq_getElem?_getD, List.getElem?_eq_none (by simp; omega)]; rfl
    have hl' : (hz b g (u :: ts)).ts.length ≤ ts.length * g.deg + 1 := hl
    have key : (hz b g (u :: ts) * g).co (ts.length * g.deg + g.deg) = (hz b g (u :: ts)).co (ts.length * g.deg) * g.co g.deg := by
      rw [co_mul]
      have one : ∀ (n i : Nat) (f : Nat → Rat), i < n → (∀ j, j < n → j ≠ i → f j = 0) → sm n f = f i := by
        intro n
        induction n with
        | zero => intro i f h; omega
        | succ n ih =>
          intro i f hi hz
          rw [sm]
          by_cases e : i = n
          · subst e
            rw [sm_zero fun k hk => hz k (by omega) (by omega)]; grind
          · rw [ih i f (by omega) fun j hj => hz j (by omega), hz n (by omega) (Ne.symm e)]; grind
      rw [one _ (ts.length * g.deg) _ (by omega) fun j hj hne => ?_]
      · congr 2
        omega
      · by_cases h : ts.length * g.deg < j
        · rw [co_zero_of (by omega)]; simp
        · rw [co_zero_of (p := g) (k := ts.length * g.deg + g.deg - j) (by unfold Pol.deg at *; omega)]; simp
    rw [key, ih, z]
    have : (t :: u :: ts).getD (ts.length + 1) 0 = (u :: ts).getD ts.length 0 := by simp
    rw [this]
    simp
    grind
theorem comp_top {f g : Pol} (hf : f.ts ≠ []) (hg : 2 ≤ g.ts.length) : (f.comp g).co (f.deg * g.deg) = f.co f.deg * g.co g.deg ^ f.deg := by
  unfold Pol.comp
  have : f.co f.deg = Rat.divInt (f.ts.getD f.deg 0) f.b := rfl
  rw [this]
  unfold Pol.deg
  generalize f.ts = ts at hf
  cases ts with
  | nil => exact absurd rfl hf
  | cons t ts => exact hz_top f.hb hg ts t
theorem len_comp {f g : Pol} (hf : f.ts ≠ []) (hg : 2 ≤ g.ts.length) : (f.comp g).ts.length = (f.ts.length - 1) * (g.ts.length - 1) + 1 := by
  refine Nat.le_antisymm comp_len ?_
  by_cases hl : (f.ts.length - 1) * (g.ts.length - 1) + 1 ≤ (f.comp g).ts.length
  · exact hl
  · exfalso
    have := comp_top hf hg
    rw [co_zero_of (by unfold Pol.deg; omega)] at this
    have a := co_lead hf
    have b := co_lead (p := g) (fun e => by rw [e] at hg; simp at hg)
    have c : ∀ n : Nat, g.co (g.ts.length - 1) ^ n ≠ 0 := by
      intro n
      induction n with
      | zero => grind
      | succ n ih => grind
    have := c f.deg
    unfold Pol.deg at *
    grind
end NW

namespace NW
open PySem PySem.Spec PyProof.Rows L2
/-! ### drawn polynomials -/
theorem lc_prop {d : ItD} {vs : List Nat} {t : MT} {c : MB} {m : ME} {l : NW.Loc} {st : Sto} {p : PyData → Prop} {P : List PyData → Sto → Prop} {xs : List PyData} (hk : d.chk st)
    (h : ∀ x, x ∈ xs → (t (.d x) (wipeL l vs) st).To fun l1 s => (c l1 s).To fun b s => b = true ∧ (m l1 s).To fun u s => ∃ y, u = .d y ∧ s = st ∧ p y) (fin : ∀ ys, ys.length = xs.length → (∀ y, y ∈ ys → p y) → P ys st) : (lcM d vs t c m l xs st).To P := by
  refine (lc_to (I := fun ys acc s => s = st ∧ (∃ zs, xs = zs ++ ys ∧ acc.length = zs.length) ∧ ∀ y, y ∈ acc → p y) (P := fun ys s => s = st ∧ ys.length = xs.length ∧ ∀ y, y ∈ ys → p y) (fun _ _ _ z => z.1 ▸ hk) ?_ ?_ xs [] st ⟨rfl, ⟨[], rfl, rfl⟩, by simp⟩).mono ?_
  · rintro x ys acc s ⟨rfl, ⟨zs, rfl, hz⟩, hp⟩
    refine (h x (by simp)).mono ?_
    rintro l1 s1 h1
    refine h1.mono ?_
    rintro b s2 ⟨rfl, h2⟩
    rw [if_pos rfl]
    refine h2.mono ?_
    rintro u s3 ⟨y, rfl, rfl, py⟩
    refine ⟨_, rfl, rfl, ⟨zs ++ [x], by simp, by simp [hz]⟩, fun w hw => ?_⟩
    rcases List.mem_append.mp hw with hw | hw
    · exact hp w hw
    · have : w = y := by simpa using hw
      subst this; exact py
  · rintro acc s ⟨rfl, ⟨zs, rfl, hz⟩, hp⟩
    exact ⟨rfl, by simp [hz], hp⟩
  · rintro ys s ⟨rfl, hl, hp⟩
    exact fin ys hl hp
theorem mk_len_eq {ts : List Int} {t : Int} {b : Nat} (hb : 0 < b) (ht : t ≠ 0) : (mk (ts ++ [t]) b).ts.length = ts.length + 1 := len_of (fun k hk => by
  rw [co_mk hb, List.getD_eq_getElem?_getD, List.getElem?_eq_none (by simp; omega)]; simp) fun _ => by
  have e0 : (ts ++ [t])[ts.length + 1 - 1]? = some t := by simp
  rw [co_mk hb, List.getD_eq_getElem?_getD, e0]
  intro e
  have e2 : Rat.divInt t b = Rat.divInt 0 1 := by rw [Rat.zero_divInt]; exact e
  have := (Rat.divInt_eq_divInt_iff (by omega) (by omega)).mp e2
  omega
theorem any_poly_to {f : Fl} (hf : FlOk f) {many : Nat} {most : Int} {n : Nat} (hm : many ≤ 30) (h0 : 1 ≤ most) (h1 : most ≤ 10 ^ 40) (hn : most < 2 ^ n) (h2 : 3 ≤ n) (h3 : n ≤ 8000) : (m_L_any_poly [.int many, .int most] f).To fun d f' => ∃ p, d = polyD p ∧ PBt n (many + 1) p ∧ p.ts.length = many + 1 ∧ FlOk f' := by
  unfold m_L_any_poly
  rw [flow_to]
  unfold b_L_any_poly
  have hc : ((2 ^ n : Nat) : Int) = 2 ^ n := by simp
  have h4 : 2 ^ 3 ≤ 2 ^ n := pw_le h2
  simp [startL]
  refine ⟨decide_eq_true (by omega), by omega, ?_⟩
  refine lc_draw (p := fun y => ∃ t, y = .int t ∧ t.natAbs < 2 ^ n) ?_ hf ?_
  · intro x hx g og
    simp [wipeL]
    refine (L_number_to og (by omega) h1).mono ?_
    rintro _ g1 ⟨v, rfl, v1, v2, o1⟩
    refine (pick_to o1 (by omega) (by omega)).mono ?_
    rintro _ g2 ⟨i, rfl, i1, i2, o2⟩
    simp
    have hv : v.natAbs < 2 ^ n := by omega
    by_cases hi : 0 < i
    · have mc : mulC v 1 = true := mx hv (b := 1) (by decide) (by omega)
      simp [hi, mc]
      exact ⟨o2, hv⟩
    · have mc : mulC v 0 = true := mx hv (b := 1) (by decide) (by omega)
      simp [hi, mc]
      exact ⟨o2, by omega⟩
  · intro ys g1 hl hy o1
    obtain ⟨ts, rfl, ht⟩ := all_int hy
    have hl' : ts.length = many := by simpa using hl
    simp
    refine (pickx (b := 200) o1 (by omega) (by omega) (by omega) (by omega)).mono ?_
    rintro _ g2 ⟨u, rfl, u1, u2, o2⟩
    simp
    refine (pickx (b := 200) o2 (by omega) (by omega) (by omega) (by omega)).mono ?_
    rintro _ g3 ⟨v, rfl, v1, v2, o3⟩
    simp
    refine (pick_to o3 (by omega) (by omega)).mono ?_
    rintro _ g4 ⟨i, rfl, i1, i2, o4⟩
    refine ixl_to (p := fun x => ∃ j : Int, x = .int j ∧ j ≠ 0 ∧ j.natAbs < 2 ^ n) i1 i2 (by simp; omega) ?_
    rintro _ ⟨first, rfl, fz, fb⟩
    simp
    refine ⟨by omega, ?_⟩
    refine (pick_to o4 (by omega) (by omega)).mono ?_
    rintro _ g5 ⟨i, rfl, i1, i2, o5⟩
    refine ixl_to (p := fun x => ∃ j : Int, x = .int j ∧ 1 ≤ j ∧ j ≤ 6) i1 i2 (by simp) ?_
    rintro _ ⟨mb, rfl, mb0, mb1⟩
    simp
    refine (pick_to o5 (by omega) (by omega)).mono ?_
    rintro _ g6 ⟨w, rfl, w1, w2, o6⟩
    simp
    obtain ⟨B, hB⟩ : ∃ B : Nat, 1 + w = (B : Int) := ⟨(1 + w).toNat, by omega⟩
    rw [hB]
    have hB1 : B < 2 ^ n := by omega
    refine L_poly_to (ts := ts ++ [first]) (.inl (by simp)) (by omega) (Nat.lt_of_lt_of_le hB1 (pw_le (by omega))) (by simp; omega) ?_
    refine ⟨_, rfl, PBt.mk (by omega) (by simp [hl']) hB1 fun t h => ?_, by rw [mk_len_eq (by omega) fz, hl'], o6⟩
    rcases List.mem_append.mp h with h | h
    · exact ht t h
    · have : t = first := by simpa using h
      subst this; exact fb
theorem lin_eq {a b : Rat} : Pol.lin a b = NW.mk [b.num * a.den, a.num * b.den] (a.den * b.den) := Pol.ext_ev fun x => by
  rw [ev_mk (Nat.mul_pos a.den_pos b.den_pos), ev_lin]
  simp only [evZ]
  have ea := Rat.num_divInt_den a
  have eb := Rat.num_divInt_den b
  rw [divInt_div] at ea eb
  have za : ((a.den : Int) : Rat) ≠ 0 := fun e => den_ne a (Rat.intCast_eq_zero_iff.mp e)
  have zb : ((b.den : Int) : Rat) ≠ 0 := fun e => den_ne b (Rat.intCast_eq_zero_iff.mp e)
  rw [Int.natCast_mul, Rat.intCast_mul, Rat.intCast_mul, Rat.intCast_mul]
  conv => lhs; rw [← ea, ← eb]
  grind
theorem PBt.lin2 {a b : Rat} {n k : Nat} (ha : FB n a) (hb : FB k b) : PBt (n + k) 2 (Pol.lin a b) := by
  rw [lin_eq]
  refine PBt.mk (Nat.mul_pos a.den_pos b.den_pos) (by simp) (by rw [Nat.pow_add]; exact Nat.mul_lt_mul'' ha.2 hb.2) fun t ht => ?_
  simp at ht
  rcases ht with rfl | rfl
  · rw [Int.natAbs_mul, Int.natAbs_natCast, Nat.pow_add, Nat.mul_comm]; exact Nat.mul_lt_mul'' ha.2 hb.1
  · rw [Int.natAbs_mul, Int.natAbs_natCast, Nat.pow_add]; exact Nat.mul_lt_mul'' ha.1 hb.2
theorem PBt.lin1 {b : Rat} {k : Nat} (hb : FB k b) : PBt k 2 (Pol.lin 1 b) := by
  have : Pol.lin 1 b = NW.mk [b.num, b.den] b.den := Pol.ext_ev fun x => by
    rw [ev_mk b.den_pos, ev_lin]
    simp only [evZ]
    have eb := Rat.num_divInt_den b
    rw [divInt_div] at eb
    have zb : ((b.den : Int) : Rat) ≠ 0 := fun e => den_ne b (Rat.intCast_eq_zero_iff.mp e)
    conv => lhs; rw [← eb]
    grind
  rw [this]
  refine PBt.mk b.den_pos (by simp) hb.2 fun t ht => ?_
  simp at ht
  rcases ht with rfl | rfl
  · exact hb.1
  · simpa using hb.2
theorem any_straight_to {f : Fl} (hf : FlOk f) {most : Int} {n : Nat} (h0 : 1 ≤ most) (h1 : most ≤ 10 ^ 40) (hn : most < 2 ^ n) (h2 : 2 ≤ n) (h3 : n ≤ 4000) : (m_L_any_straight [.int most] f).To fun d f' => ∃ a b, d = polyD (Pol.lin a b) ∧ a ≠ 0 ∧ FB n a ∧ FB n b ∧ FlOk f' := by
  unfold m_L_any_straight
  rw [flow_to]
  unfold b_L_any_straight
  have hc : ((2 ^ n : Nat) : Int) = 2 ^ n := by simp
  have h4 : 2 ^ 2 ≤ 2 ^ n := pw_le h2
  simp [startL]
  refine (pickx (b := 200) hf (by omega) (by omega) (by omega) (by omega)).mono ?_
  rintro _ g1 ⟨t, rfl, t1, t2, o1⟩
  simp
  refine (pick_to o1 (by omega) (by omega)).mono ?_
  rintro _ g2 ⟨u, rfl, u1, u2, o2⟩
  simp
  have bt : (1 + t).natAbs < 2 ^ n := by omega
  have bu : (1 + u).natAbs < 2 ^ n := by omega
  refine L_fraction_to (by omega) (Nat.lt_of_lt_of_le bu (pw_le (by omega))) ?_
  have fa : FB n (Rat.divInt (1 + t) (1 + u)) := FB.of_divInt (by omega) bt bu
  have za : Rat.divInt (1 + t) (1 + u) ≠ 0 := fun e => by
    have e2 : Rat.divInt (1 + t) (1 + u) = Rat.divInt 0 1 := by rw [e, Rat.zero_divInt]
    have := (Rat.divInt_eq_divInt_iff (by omega) (by omega)).mp e2
    omega
  generalize Rat.divInt (1 + t) (1 + u) = a at fa za
  refine (pick_to o2 (by omega) (by omega)).mono ?_
  rintro _ g3 ⟨i, rfl, i1, i2, o3⟩
  refine ixl_to (p := fun x => ∃ r, x = fracD r ∧ r ≠ 0 ∧ FB n r) i1 i2 ?_ ?_
  · intro x hx
    simp at hx
    rcases hx with rfl | rfl | rfl
    · exact ⟨1, rfl, by decide, FB.one (by omega)⟩
    · exact ⟨-1, rfl, by decide, FB_m1.mono (by omega)⟩
    · exact ⟨a, rfl, za, fa⟩
  rintro _ ⟨r, rfl, rz, rb⟩
  simp
  refine (any_fraction_to o3 h0 h1 hn h2 (by omega)).mono ?_
  rintro _ g4 ⟨q, rfl, hq, o4⟩
  refine L_straight_to rb hq (by omega) ?_
  exact ⟨r, q, rfl, rz, rb, hq, o4⟩
theorem degree_drawn_to {f : Fl} (hf : FlOk f) : (m_L_degree_drawn [] f).To fun d f' => ∃ n : Nat, d = .int n ∧ 2 ≤ n ∧ n ≤ 12 ∧ FlOk f' := by
  unfold m_L_degree_drawn
  rw [flow_to]
  unfold b_L_degree_drawn
  simp [startL]
  refine (pick_to hf (by omega) (by omega)).mono ?_
  rintro _ g1 ⟨i, rfl, i1, i2, o1⟩
  by_cases h : i = 0
  · subst h
    simp
    refine (pick_to o1 (by omega) (by omega)).mono ?_
    rintro _ g2 ⟨j, rfl, j1, j2, o2⟩
    simp
    exact ⟨(8 + j).toNat, by omega, by omega, by omega, o2⟩
  · simp [h]
    refine (pick_to o1 (by omega) (by omega)).mono ?_
    rintro _ g2 ⟨j, rfl, j1, j2, o2⟩
    simp
    exact ⟨(2 + j).toNat, by omega, by omega, by omega, o2⟩
theorem L_at_2_to {p : Pol} {k : Nat} {P : PyData → Prop} (hb : p.b < 2 ^ 8999) (h : P (fracD (p.co k))) : (m_L_at_2 [polyD p, .int k]).To P := by
  unfold m_L_at_2
  rw [pure_to]
  unfold b_L_at_2
  have hp := p.hb
  by_cases hk : p.ts.length ≤ k
  · rw [co_zero_of hk] at h
    simp [startL, polyD, hk]
    exact h
  · have e : p.ts.getD k 0 = p.ts[k]'(by omega) := by simp [List.getD_eq_getElem?_getD, List.getElem?_eq_getElem (show k < p.ts.length by omega)]
    have hk' : k < p.ts.length := by omega
    unfold Pol.co at h
    rw [e] at h
    simp [startL, polyD, hk, hk', idxN_nat (show k < p.ts.length by omega)]
    exact L_fraction_to (by omega) (by simpa using hb) h
theorem plain_one_to {f : Fl} (hf : FlOk f) {n : Nat} (h2 : 2 ≤ n) (hn : n ≤ 12) : (m_L_plain_one [.int n] f).To fun d f' => ∃ p, d = polyD p ∧ PBt 4 (n + 1) p ∧ p.ts.length = n + 1 ∧ FlOk f' := by
  unfold m_L_plain_one
  rw [flow_to]
  unfold b_L_plain_one
  simp [startL]
  refine (pick_to hf (by omega) (by omega)).mono ?_
  rintro _ g1 ⟨i, rfl, i1, i2, o1⟩
  simp
  obtain ⟨gap, hg, hg1⟩ : ∃ gap : Int, 1 + (if i = 0 then 1 else 0) = gap ∧ (gap = 1 ∨ gap = 2) := by
    by_cases h : i = 0
    · exact ⟨2, by rw [if_pos h]; rfl, .inr rfl⟩
    · exact ⟨1, by rw [if_neg h]; rfl, .inl rfl⟩
  rw [hg]
  refine (any_poly_to (n := 4) o1 (by omega) (by omega) (by omega) (by omega) (by omega) (by omega)).mono ?_
  rintro _ g2 ⟨p, rfl, hp, hpl, o2⟩
  simp
  refine ⟨decide_eq_true (by omega), by omega, ?_⟩
  refine lc_prop (p := fun y => ∃ t, y = .int t ∧ t.natAbs < 2 ^ 4) chk_nil ?_ ?_
  · intro x hx
    obtain ⟨k, hk, rfl⟩ := range_mem hx
    have hk' : k < p.ts.length := by omega
    have hb := hp.2.2 _ (List.getElem_mem hk')
    have gz : ¬ gap = 0 := by omega
    have m1 : mulC p.ts[k] 1 = true := mx hb (b := 1) (by decide) (by omega)
    have m0 : mulC p.ts[k] 0 = true := mx hb (b := 1) (by decide) (by omega)
    have fin : ∀ b : Bool, mulC p.ts[k] (if b then 1 else 0) = true ∧ (p.ts[k] * (if b then 1 else 0) : Int).natAbs < 2 ^ 4 := by
      intro b
      cases b
      · simpa using m0
      · exact ⟨m1, by simpa using hb⟩
    simp [wipeL, idxN_nat hk', hk', eChain, gz]
    have key : ∀ (c : Prop) [Decidable c], mulC p.ts[k] (if c then 1 else 0) = true ∧ (p.ts[k] * if c then 1 else 0).natAbs < 16 := by
      intro c _
      by_cases h : c
      · simp only [h, if_true]; exact ⟨m1, by simpa using hb⟩
      · simp only [h, if_false]; exact ⟨m0, by simp⟩
    by_cases h0 : 0 < k
    · rw [if_pos h0]
      by_cases h1 : (k : Int) < n - 1
      · exact .inr ⟨h1, key _⟩
      · exact .inl ⟨by omega, m0⟩
    · rw [if_neg h0]; exact m0
  · intro ys hl hy
    obtain ⟨ts, rfl, ht⟩ := all_int hy
    have hl' : ts.length = n := by simpa using hl
    have hpb := p.hb
    simp
    refine ⟨by omega, ?_⟩
    refine L_poly_to (ts := ts ++ [(p.b : Int)]) (.inl (by simp)) hpb (Nat.lt_of_lt_of_le hp.2.1 (pw_le (by omega))) (by simp; omega) ?_
    refine ⟨_, rfl, PBt.mk hpb (by simp [hl']) hp.2.1 fun t h => ?_, by rw [mk_len_eq hpb (by omega), hl'], o2⟩
    rcases List.mem_append.mp h with h | h
    · exact ht t h
    · have : t = p.b := by simpa using h
      subst this; simpa using hp.2.1
def absI (i : Int) : Int := if i < 0 then -i else i
theorem abs_eq {i : Int} : absI i = (i.natAbs : Int) := by unfold absI; split <;> omega
theorem ten40' : (10000000000000000000000000000000000000000 : Int) ≤ 2 ^ 133 := by decide +kernel
/-- the greatest number in a polynomial -/
def mxP (f : Pol) : Int := (maxI ((f.b : Int) :: f.ts.map absI)).getD 0
theorem mxP_small {f : Pol} (h : mxP f < 10 ^ 40) : PBt 133 f.ts.length f := by
  unfold mxP at h
  obtain ⟨m, hm⟩ : ∃ m, maxI ((f.b : Int) :: f.ts.map absI) = some m := ⟨_, rfl⟩
  rw [hm] at h
  have h' : m < 10 ^ 40 := h
  obtain ⟨a, b, _⟩ := maxI_cons hm
  have t4 := ten40'
  refine ⟨Nat.le_refl _, by omega, fun t ht => ?_⟩
  have := b (absI t) (List.mem_map_of_mem ht)
  rw [abs_eq] at this
  omega
theorem short_to {fs : List Pol} (hl : fs.length ≤ 1000) (hf : ∀ f, f ∈ fs → f.ts.length ≤ 1000) : (m_L_short [.list (fs.map polyD)]).To fun d => ∃ b, d = .bool b ∧ (b = true → ∀ f, f ∈ fs → PBt 133 f.ts.length f) := by
  unfold m_L_short
  rw [pure_to]
  unfold b_L_short
  simp [startL]
  refine ⟨by omega, ?_⟩
  refine lc_mapA (f := polyD) (g := fun f => .bool (decide (mxP f < 10 ^ 40))) chk_nil ?_ ?_
  · intro f hff
    have hfl := hf f hff
    simp [wipeL]
    refine ⟨by omega, ?_⟩
    refine lc_mapA (f := PyData.int) (g := fun t => .int (absI t)) chk_nil ?_ ?_
    · intro t ht
      simp [wipeL, absI]
    · have e : (PyData.int f.b :: f.ts.map fun t => PyData.int (absI t)) = ((f.b : Int) :: f.ts.map absI).map .int := by simp
      obtain ⟨m, hm⟩ : ∃ m, maxI ((f.b : Int) :: f.ts.map absI) = some m := ⟨_, rfl⟩
      have e2 : mxP f = m := by unfold mxP; rw [hm]; rfl
      simp only [to_ok, to_addL, List.length_map, List.length_cons, List.length_nil]
      rw [e, to_maxL]
      exact ⟨by omega, m, hm, by rw [e2]; exact ⟨rfl, rfl⟩⟩
  · have e : (fs.map fun f => PyData.bool (decide (mxP f < 10 ^ 40))) = (fs.map fun f => decide (mxP f < 10 ^ 40)).map .bool := by simp
    rw [e, to_cAll]
    cases h : (fs.map fun f => decide (mxP f < 10 ^ 40)).all id with
    | false => exact .inl rfl
    | true =>
    refine .inr ⟨rfl, fun f hf => ?_⟩
    have := List.all_eq_true.mp h (decide (mxP f < 10 ^ 40)) (List.mem_map_of_mem hf)
    exact mxP_small (of_decide_eq_true this)
theorem fracD_11 : PyData.tuple [.int 1, .int 1] = fracD 1 := rfl
theorem lin_ne {a b : Rat} (ha : a ≠ 0) : (Pol.lin a b).ts ≠ [] := fun e => by have := lin_len (b := b) ha; rw [e] at this; simp at this
theorem drawn_3_to {f : Fl} (hf : FlOk f) : (m_L_drawn_3 [] f).To fun d f' => ∃ p, d = polyD p ∧ 3 ≤ p.ts.length ∧ p.ts.length ≤ 13 ∧ FlOk f' := by
  unfold m_L_drawn_3
  rw [flow_to]
  unfold b_L_drawn_3
  simp [startL]
  refine (degree_drawn_to hf).mono ?_
  rintro _ g1 ⟨n, rfl, n2, n12, o1⟩
  refine (pick_to o1 (by omega) (by omega)).mono ?_
  rintro _ g2 ⟨i, rfl, i1, i2, o2⟩
  by_cases h : i = 0
  · subst h
    simp
    refine (pick_to o2 (by omega) (by omega)).mono ?_
    rintro _ g3 ⟨j, rfl, j1, j2, o3⟩
    simp
    obtain ⟨most, hm, hm1, hm2⟩ : ∃ most : Int, ((idxN 2 (if j = 0 then 1 else 0)).bind fun k => [PyData.int 9, PyData.int 999999999999999999999999999999999999999][k]?) = some (.int most) ∧ 1 ≤ most ∧ most < 10 ^ 39 := by
      by_cases h : j = 0
      · exact ⟨_, by rw [if_pos h]; rfl, by omega, by omega⟩
      · exact ⟨_, by rw [if_neg h]; rfl, by omega, by omega⟩
    refine ⟨_, hm, ?_⟩
    refine (any_poly_to (n := 130) o3 (by omega) hm1 (by omega) (by omega) (by omega) (by omega)).mono ?_
    rintro _ g4 ⟨p, rfl, hp, hpl, o4⟩
    exact ⟨p, rfl, by omega, by omega, o4⟩
  · simp [h]
    refine (plain_one_to o2 n2 n12).mono ?_
    rintro _ g3 ⟨p, rfl, hp, hpl, o3⟩
    refine (any_straight_to (n := 2) o3 (by omega) (by omega) (by omega) (by omega) (by omega)).mono ?_
    rintro _ g4 ⟨a, b, rfl, ha, fa, fb, o4⟩
    try simp
    have s1 := PBt.lin2 fa fb
    have hpn : p.ts ≠ [] := fun e => by rw [e] at hpl; simp at hpl
    refine of3 (by omega) s1 hp (by omega) (by omega) (by omega) ?_
    have s2 := s1.comp3 (by omega) hp (by omega)
    have l2 := len_comp (f := Pol.lin a b) (g := p) (lin_ne ha) (by omega)
    rw [lin_len ha, hpl] at l2
    generalize (Pol.lin a b).comp p = q at s2 l2
    refine (any_straight_to (n := 2) o4 (by omega) (by omega) (by omega) (by omega) (by omega)).mono ?_
    rintro _ g5 ⟨c, e, rfl, hc, fc, fe, o5⟩
    try simp
    have s3 := PBt.lin2 fc fe
    have hqn : q.ts ≠ [] := fun e => by rw [e] at l2; simp at l2
    have q1 : (n + 1 - 2) * (4 + 11) ≤ 11 * 15 := Nat.mul_le_mul_right _ (by omega)
    have q2 : (n + 1 - 1) * 2 ≤ 24 := by omega
    have s2' : PBt 20 (n + 1) q := ⟨by omega, (s2.mono (n' := 20) (m' := 1000) (by omega) (by omega)).2⟩
    refine of3 (by omega) s2' s3 (by omega) (by omega) (by omega) ?_
    have l3 := len_comp (f := q) (g := Pol.lin c e) hqn (by rw [lin_len hc]; omega)
    rw [lin_len hc, l2] at l3
    exact ⟨_, rfl, by omega, by omega, o5⟩
end NW

namespace NW
open PySem PySem.Spec PyProof.Rows L2
/-! ### plain polynomials -/
theorem PBt.rep {p : Pol} {n m D : Nat} {N : Nat → Int} (hD : 0 < D) (h1 : ∀ k, p.co k = Rat.divInt (N k) D) (h2 : D < 2 ^ n) (h3 : ∀ k, (N k).natAbs < 2 ^ n) (h4 : ∀ k, m ≤ k → p.co k = 0) : PBt n m p := by
  have : p = NW.mk ((List.range m).map N) D := Pol.ext_co fun k => by
    rw [co_mk hD, List.getD_eq_getElem?_getD, List.getElem?_map]
    by_cases hk : k < m
    · rw [List.getElem?_range hk]; exact h1 k
    · rw [List.getElem?_eq_none (by simp; omega), h4 k (by omega)]; simp
  rw [this]
  refine PBt.mk hD (by simp) h2 fun t ht => ?_
  obtain ⟨k, _, rfl⟩ := List.mem_map.mp ht
  exact h3 k
theorem con_eq {r : Rat} : ofC [r] = NW.mk [r.num] r.den := Pol.ext_co fun k => by
  rw [co_ofC, co_mk r.den_pos]
  cases k with
  | zero => simp only [List.getD_cons_zero]; exact (Rat.num_divInt_den r).symm
  | succ k => simp
theorem PBt.con {r : Rat} {n : Nat} (h : FB n r) : PBt n 1 (NW.ofC [r]) := by
  rw [con_eq]
  exact PBt.mk r.den_pos (by simp) h.2 (by simpa using h.1)
theorem ev_con {r x : Rat} : (ofC [r]).ev x = r := by rw [ev_ofC]; simp [evQ]; grind
theorem co_con {r : Rat} {k : Nat} : (ofC [r]).co k = if k = 0 then r else 0 := by
  rw [co_ofC]
  cases k with
  | zero => rfl
  | succ k => simp
theorem poly1_to {r : Rat} {n : Nat} {P : PyData → Prop} (hr : FB n r) (h0 : 0 < n) (hn : n ≤ 8000) (h : P (polyD (ofC [r]))) : (m_poly [.list [fracD r]]).To P := poly_to (qs := [r]) (n := n) (.inl rfl) (by simpa using hr) (by simpa using hn) h0 hn (by simp) h
/-- times a straight one of lead 1 -/
theorem co_mul_lin {p : Pol} {c : Rat} {k : Nat} : (p * Pol.lin 1 c).co (k + 1) = p.co k + c * p.co (k + 1) := by
  have g2 : ∀ i, 2 ≤ i → (Pol.lin 1 c).co i = 0 := fun i hi => co_zero_of (by rw [lin_len (by decide)]; exact hi)
  rw [co_mul, sm, sm]
  rw [sm_zero fun j hj => by rw [g2 _ (by omega)]; simp]
  rw [show k + 1 - k = 1 by omega, show k + 1 - (k + 1) = 0 by omega, co_lin0, co_lin1]
  grind
theorem co_mul_lin0 {p : Pol} {c : Rat} : (p * Pol.lin 1 c).co 0 = c * p.co 0 := by
  rw [co_mul, sm, sm, Nat.sub_zero, co_lin0]; grind
/-- the two greatest fractions of one with the letter moved -/
theorem hz_shift {b : Nat} (hb : 0 < b) {c : Rat} : ∀ (ts : List Int) (u t : Int), (hz b (Pol.lin 1 c) (t :: u :: ts)).co (ts.length + 1) = Rat.divInt ((u :: ts).getD ts.length 0) b ∧ (hz b (Pol.lin 1 c) (t :: u :: ts)).co ts.length = Rat.divInt ((t :: u :: ts).getD ts.length 0) b + ((ts.length + 1 : Nat) : Int) * c * Rat.divInt ((u :: ts).getD ts.length 0) b
  | [], u, t => by
    have e : hz b (Pol.lin 1 c) [t, u] = hz b (Pol.lin 1 c) [u] * Pol.lin 1 c + mk [t] b := rfl
    rw [e, hz_one hb, co_add, co_add]
    simp only [List.length_nil, Nat.zero_add]
    rw [co_mul_lin, co_mul_lin0, co_mk hb, co_mk hb, co_mk hb, co_mk hb]
    simp
    constructor <;> grind
  | v :: ts, u, t => by
    obtain ⟨i1, i2⟩ := hz_shift hb (c := c) ts v u
    have e : hz b (Pol.lin 1 c) (t :: u :: v :: ts) = hz b (Pol.lin 1 c) (u :: v :: ts) * Pol.lin 1 c + mk [t] b := rfl
    have hl := hz_len hb (g := Pol.lin 1 c) (ts := u :: v :: ts)
    rw [lin_len (by decide)] at hl
    simp only [List.length_cons, Nat.add_sub_cancel] at hl
    have z : (hz b (Pol.lin 1 c) (u :: v :: ts)).co (ts.length + 1 + 1) = 0 := co_zero_of (by omega)
    have z1 : ∀ k, (mk [t] b).co (k + 1) = 0 := fun k => by rw [co_mk hb]; simp
    rw [e, co_add, co_add, List.length_cons, co_mul_lin, co_mul_lin, z, z1, z1, i1, i2]
    have g1 : (u :: v :: ts).getD (ts.length + 1) 0 = (v :: ts).getD ts.length 0 := rfl
    have g2 : (t :: u :: v :: ts).getD (ts.length + 1) 0 = (u :: v :: ts).getD ts.length 0 := rfl
    rw [g1, g2]
    have e2 : (((ts.length + 1 + 1 : Nat) : Int) : Rat) = ((ts.length + 1 : Nat) : Int) + 1 := by
      rw [Int.natCast_add (ts.length + 1) 1, Rat.intCast_add]; simp
    rw [e2]
    constructor <;> grind
theorem shift_co {f : Pol} {c : Rat} (hl : 2 ≤ f.ts.length) : (f.comp (Pol.lin 1 c)).co f.deg = f.co f.deg ∧ (f.comp (Pol.lin 1 c)).co (f.deg - 1) = f.co (f.deg - 1) + (f.deg : Int) * c * f.co f.deg := by
  have h1 : f.co f.deg = Rat.divInt (f.ts.getD f.deg 0) f.b := rfl
  have h2 : f.co (f.deg - 1) = Rat.divInt (f.ts.getD (f.deg - 1) 0) f.b := rfl
  rw [h1, h2]
  unfold Pol.comp Pol.deg
  generalize f.ts = ts at hl
  match ts, hl with
  | t :: u :: ts, _ =>
    obtain ⟨i1, i2⟩ := hz_shift f.hb (c := c) ts u t
    simp only [List.length_cons, Nat.add_sub_cancel]
    exact ⟨i1, i2⟩
def Pol.mid (f : Pol) : Rat := f.co (f.deg - 1) / (((f.deg : Int) : Rat) * f.co f.deg)
def Pol.sh (f : Pol) : Pol := f.comp (Pol.lin 1 (-f.mid))
def Pol.pl (f : Pol) : Pol := (f.sh - NW.ofC [f.sh.co 0]).sc (1 / f.co f.deg)
theorem lead_ne {f : Pol} (hl : 1 ≤ f.ts.length) : f.co f.deg ≠ 0 := co_lead (List.length_pos_iff.mp hl)
theorem deg_ne {f : Pol} (hl : 2 ≤ f.ts.length) : ((f.deg : Int) : Rat) ≠ 0 := fun e => by
  have := Rat.intCast_eq_zero_iff.mp e
  unfold Pol.deg at this; omega
theorem ev_sh {f : Pol} {x : Rat} : f.sh.ev x = f.ev (x - f.mid) := by
  unfold Pol.sh; rw [ev_comp, ev_lin]; congr 1; grind
theorem ev_pl {f : Pol} {x : Rat} : f.pl.ev x = (f.ev (x - f.mid) - f.sh.co 0) / f.co f.deg := by
  unfold Pol.pl; rw [ev_sc, ev_sub, ev_sh, ev_con]; grind
theorem co_pl {f : Pol} {k : Nat} : f.pl.co k = if k = 0 then 0 else f.sh.co k / f.co f.deg := by
  unfold Pol.pl
  rw [co_sc, co_sub, co_con]
  split
  · rename_i h; subst h; grind
  · grind
theorem sh_len {f : Pol} (hl : 2 ≤ f.ts.length) : f.sh.ts.length = f.ts.length := by
  unfold Pol.sh
  rw [len_comp (fun e => by rw [e] at hl; simp at hl) (by rw [lin_len (by decide)]; omega), lin_len (by decide)]
  omega
theorem pl_top {f : Pol} (hl : 3 ≤ f.ts.length) : f.pl.co f.deg = 1 ∧ f.pl.co (f.deg - 1) = 0 ∧ f.pl.co 0 = 0 := by
  obtain ⟨h1, h2⟩ := shift_co (f := f) (c := -f.mid) (by omega)
  have hz := lead_ne (f := f) (by omega)
  have hd := deg_ne (f := f) (by omega)
  have n1 : f.deg ≠ 0 := by unfold Pol.deg; omega
  have n2 : f.deg - 1 ≠ 0 := by unfold Pol.deg; omega
  have e : f.comp (Pol.lin 1 (-f.mid)) = f.sh := rfl
  rw [e] at h1 h2
  refine ⟨?_, ?_, ?_⟩
  · rw [co_pl, if_neg n1, h1]; grind
  · rw [co_pl, if_neg n2, h2]
    unfold Pol.mid
    grind
  · rw [co_pl, if_pos rfl]
theorem pl_len {f : Pol} (hl : 3 ≤ f.ts.length) : f.pl.ts.length = f.ts.length := len_of (fun k hk => by
  rw [co_pl, if_neg (by omega), co_zero_of (by rw [sh_len (by omega)]; omega)]; grind) fun _ => by
  show f.pl.co f.deg ≠ 0
  rw [(pl_top hl).1]; decide
theorem pl_deg {f : Pol} (hl : 3 ≤ f.ts.length) : f.pl.deg = f.deg := by unfold Pol.deg; rw [pl_len hl]
theorem mid_FB {f : Pol} {n m : Nat} (hf : PBt n m f) (hl : 2 ≤ f.ts.length) (hm : f.ts.length ≤ 16) : FB (n + 4) f.mid := by
  have hz := tr_get f.ht (fun e => by rw [e] at hl; simp at hl)
  have e : f.mid = Rat.divInt (f.ts.getD (f.deg - 1) 0) ((f.deg : Int) * f.ts.getD f.deg 0) := by
    unfold Pol.mid Pol.co
    rw [divInt_div, divInt_div, divInt_div, Rat.intCast_mul]
    have := f.bne
    have hd := deg_ne hl
    have h2 : ((f.ts.getD f.deg 0 : Int) : Rat) ≠ 0 := fun e => hz (Rat.intCast_eq_zero_iff.mp e)
    grind
  rw [e]
  have hd : (f.deg : Int) ≠ 0 := by unfold Pol.deg; omega
  refine FB.of_divInt (Int.mul_ne_zero hd hz) (Nat.lt_of_lt_of_le (hf.get _) (pw_le (by omega))) ?_
  rw [Int.natAbs_mul, Nat.add_comm, Nat.pow_add]
  refine Nat.mul_lt_mul'' ?_ (hf.get _)
  unfold Pol.deg; simp; omega
theorem pl_sz {f : Pol} {n s m : Nat} (hf : PBt n m f) (hs : PBt s m f.sh) (hl : 3 ≤ f.ts.length) : PBt (s + n) f.ts.length f.pl := by
  have hz := tr_get f.ht (fun e => by rw [e] at hl; simp at hl)
  have hzb := f.hb
  have hsb := f.sh.hb
  generalize ht : f.ts.getD f.deg 0 = t at *
  have ht' : f.ts.getD (f.ts.length - 1) 0 = t := ht
  rw [ht'] at hz
  have tb : t.natAbs < 2 ^ n := by rw [← ht]; exact hf.get _
  have t0 : 0 < t.natAbs := by omega
  have lead : f.co f.deg = (t : Rat) / ((f.b : Int) : Rat) := by unfold Pol.co; rw [ht, divInt_div]
  refine PBt.rep (D := f.sh.b * t.natAbs) (N := fun k => if k = 0 then 0 else f.sh.ts.getD k 0 * ((f.b : Int) * t.sign)) (Nat.mul_pos hsb t0) (fun k => ?_) (by rw [Nat.pow_add]; exact Nat.mul_lt_mul'' hs.2.1 tb) (fun k => ?_) fun k hk => co_zero_of (by rw [pl_len hl]; exact hk)
  · rw [co_pl]
    split
    · simp
    · rw [lead]
      unfold Pol.co
      rw [divInt_div, divInt_div, Int.natCast_mul, Rat.intCast_mul, Rat.intCast_mul, Rat.intCast_mul]
      have e : (t : Rat) = ((t.sign : Int) : Rat) * (((t.natAbs : Nat) : Int) : Rat) := by
        rw [← Rat.intCast_mul, Int.sign_mul_natAbs]
      have hs2 : ((t.sign : Int) : Rat) * ((t.sign : Int) : Rat) = 1 := by
        rw [← Rat.intCast_mul]
        rcases Int.lt_trichotomy t 0 with h | h | h
        · rw [Int.sign_eq_neg_one_of_neg h]; rfl
        · exact absurd h hz
        · rw [Int.sign_eq_one_of_pos h]; rfl
      have hn : (((t.natAbs : Nat) : Int) : Rat) ≠ 0 := fun e => by have := Rat.intCast_eq_zero_iff.mp e; omega
      have h1 := f.bne
      have h2 := f.sh.bne
      rw [e]
      generalize ((t.sign : Int) : Rat) = s at *
      grind
  · show (if k = 0 then (0 : Int) else f.sh.ts.getD k 0 * ((f.b : Int) * t.sign)).natAbs < _
    split
    · simp [Nat.two_pow_pos]
    · rw [Int.natAbs_mul, Nat.pow_add]
      refine Nat.mul_lt_mul'' (hs.get k) ?_
      rw [Int.natAbs_mul, Int.natAbs_sign_of_ne_zero hz, Nat.mul_one]
      exact hf.2.1
theorem b9 {p : Pol} {n m : Nat} (h : PBt n m p) (hn : n ≤ 8999) : p.b < 2 ^ 8999 := Nat.lt_of_lt_of_le h.2.1 (pw_le hn)
theorem middle_to {f : Pol} {n m : Nat} {P : PyData → Prop} (hf : PBt n m f) (hl : 2 ≤ f.ts.length) (hm : f.ts.length ≤ 16) (hn : 2 * n + 4 ≤ 8999) (h : P (fracD f.mid)) : (m_middle [polyD f]).To P := by
  unfold m_middle
  rw [pure_to]
  unfold b_middle
  have hz := lead_ne (f := f) (by omega)
  have hd := deg_ne hl
  have e1 : (f.ts.length : Int) - 1 = (f.deg : Int) := by unfold Pol.deg; omega
  have e2 : (f.deg : Int) - 1 = ((f.deg - 1 : Nat) : Int) := by unfold Pol.deg; omega
  have fd : FB 4 ((f.deg : Int) : Rat) := FB.int (by unfold Pol.deg; simp; omega) (by omega)
  simp [startL]
  refine degree_to ?_
  rw [e1]
  simp only [to_subI]
  rw [e2]
  simp
  refine fraction_at_to (b9 hf (by omega)) ?_
  refine lead_to (b9 hf (by omega)) ?_
  rw [fracD_int]
  have e3 : f.co (f.ts.length - 1) = f.co f.deg := rfl
  rw [e3]
  refine multipliedx fd (co_FB hf) (by omega) ?_
  refine dividedx (co_FB hf) (fd.mul2 (co_FB hf)) ?_ (by omega) h
  grind
/-- what plain tells -/
def plD (f : Pol) : PyData := .tuple [polyD (Pol.lin (f.co f.deg) (f.sh.co 0)), polyD f.pl, polyD (Pol.lin 1 f.mid)]
theorem plain_to {f : Pol} {n e s : Nat} {P : PyData → Prop} (h0 : 0 < n) (he0 : 0 < e) (hf : PBt n f.ts.length f) (hl : 3 ≤ f.ts.length) (hm : f.ts.length ≤ 16) (he : FB e f.mid) (hs : PBt s f.ts.length f.sh) (hn : (f.ts.length - 2) * (e + 11) + 2 * n + e + 11 ≤ 8999) (he2 : 3 * e ≤ 3000) (hs2 : 2 * s + n + 3 ≤ 8999) (hs3 : s + 2 ≤ 4000) (hns : n ≤ s) (h : P (plD f)) : (m_plain [polyD f]).To P := by
  unfold m_plain
  rw [pure_to]
  unfold b_plain
  have hz := lead_ne (f := f) (by omega)
  have e3 : f.co (f.ts.length - 1) = f.co f.deg := rfl
  have eO : (c_ONCE : PyData) = fracD 1 := rfl
  have fl := co_FB (k := f.deg) hf
  have ml := PBt.lin1 he.neg
  have fr := co_FB (k := 0) hs
  have sc := PBt.con fr
  have q1 : (f.ts.length - 1) * 2 ≤ 15 * 2 := Nat.mul_le_mul_right _ (by omega)
  simp [startL]
  refine middle_to hf (by omega) hm (by omega) ?_
  try simp
  rw [fracD_m1, eO]
  refine multipliedx FB_m1 he (by omega) ?_
  have em : (-1 : Rat) * f.mid = -f.mid := by grind
  rw [em]
  refine straight_to (n := e) (FB.one (by omega)) he.neg (by omega) (by omega) ?_
  refine put3 h0 hf ml (by omega) (by omega) hn ?_
  have eS : f.comp (Pol.lin 1 (-f.mid)) = f.sh := rfl
  rw [eS]
  refine fraction_at_to (k := 0) (b9 hs (by omega)) ?_
  refine poly1_to fr (by omega) (by omega) ?_
  refine minusx hs (sc.mono (Nat.le_refl _) (by omega)) (by omega) (by omega) ?_
  refine lead_to (b9 hf (by omega)) ?_
  rw [e3]
  have f1 : FB (n + 1) (1 / f.co f.deg) := ((FB.one (n := 1) (by omega)).div2 fl hz).mono (by omega)
  refine dividedx (FB.one (n := 1) (by omega)) fl hz (by omega) ?_
  refine scaledx (hs.sub (sc.mono (n' := s) (m' := f.ts.length) (Nat.le_refl _) (by omega))) f1 (by omega) (by omega) ?_
  refine lead_to (b9 hf (by omega)) ?_
  rw [e3]
  refine straight_to (n := s) (fl.mono hns) fr (by omega) (by omega) ?_
  refine straight_to (n := e) (FB.one (by omega)) he (by omega) (by omega) ?_
  try simp
  exact h
theorem plain_told_to {f : Pol} {n e s : Nat} {P : PyData → Prop} (h0 : 0 < n) (he0 : 0 < e) (hf : PBt n f.ts.length f) (hl : 3 ≤ f.ts.length) (hm : f.ts.length ≤ 16) (he : FB e f.mid) (hs : PBt s f.ts.length f.sh) (hn : (f.ts.length - 2) * (e + 11) + 2 * n + e + 11 ≤ 8999) (he2 : 3 * e ≤ 3000) (hs2 : 2 * s + n + 30 ≤ 8999) (hs3 : s + 2 ≤ 4000) (hns : n ≤ s) (h : P (plD f)) : (m_L_plain_told [polyD f]).To P := by
  unfold m_L_plain_told
  rw [pure_to]
  unfold b_L_plain_told
  have hz := lead_ne (f := f) (by omega)
  have hd := deg_ne (f := f) (by omega)
  have fl := co_FB (k := f.deg) hf
  have ml := PBt.lin1 he
  have ml2 := PBt.lin1 he.neg
  have fr := co_FB (k := 0) hs
  have e1 : (f.ts.length : Int) - 1 = (f.deg : Int) := by unfold Pol.deg; omega
  have e2 : (f.deg : Int) - 1 = ((f.deg - 1 : Nat) : Int) := by unfold Pol.deg; omega
  have fd : FB 4 ((f.deg : Int) : Rat) := FB.int (by unfold Pol.deg; simp; omega) (by omega)
  have q1 : (f.ts.length - 1) * 2 ≤ 15 * 2 := Nat.mul_le_mul_right _ (by omega)
  simp [startL]
  rw [e1, e2]
  refine L_at_2_to (b9 hf (by omega)) ?_
  refine L_at_2_to (b9 hf (by omega)) ?_
  rw [fracD_int, L_product_eq, L_divided_eq]
  refine multipliedx fd fl (by omega) ?_
  refine dividedx (co_FB hf) (fd.mul2 fl) (by grind) (by omega) ?_
  have em : f.co (f.deg - 1) / (((f.deg : Int) : Rat) * f.co f.deg) = f.mid := rfl
  rw [em, fracD_1]
  refine L_straight_to (n := e) (FB.one (by omega)) he (by omega) ?_
  refine L_turned_back_to ml (by omega) (lin_len (by decide)) ?_
  have ei : (Pol.lin 1 f.mid).inv = Pol.lin 1 (-f.mid) := Pol.ext_ev fun x => by
    unfold Pol.inv
    rw [co_lin0, co_lin1, ev_lin, ev_lin]; grind
  rw [ei]
  refine of3 h0 hf ml2 (by omega) (by omega) hn ?_
  have eS : f.comp (Pol.lin 1 (-f.mid)) = f.sh := rfl
  rw [eS]
  refine L_at_2_to (k := 0) (b9 hs (by omega)) ?_
  simp
  have sr : PBt s 1 (NW.mk [-(f.sh.co 0).num] (f.sh.co 0).den) := PBt.mk (Rat.den_pos _) (by simp) fr.2 (by simpa using fr.1)
  refine L_poly_to (ts := [-(f.sh.co 0).num]) (.inl rfl) (Rat.den_pos _) (Nat.lt_of_lt_of_le fr.2 (pw_le (by omega))) (by simp) ?_
  refine L_sumx hs (sr.mono (Nat.le_refl _) (by omega)) (by omega) (by omega) ?_
  refine L_at_2_to (b9 hf (by omega)) ?_
  have f1 : FB (n + 1) (1 / f.co f.deg) := ((FB.one (n := 1) (by omega)).div2 fl hz).mono (by omega)
  refine dividedx (FB.one (n := 1) (by omega)) fl hz (by omega) ?_
  simp
  refine L_at_2_to (b9 hf (by omega)) ?_
  refine dividedx (FB.one (n := 1) (by omega)) fl hz (by omega) ?_
  simp
  refine L_poly_to (ts := [(1 / f.co f.deg).num]) (.inl rfl) (Rat.den_pos _) (Nat.lt_of_lt_of_le f1.2 (pw_le (by omega))) (by simp) ?_
  have s1 : PBt (n + 1) 1 (NW.mk [(1 / f.co f.deg).num] (1 / f.co f.deg).den) := PBt.mk (Rat.den_pos _) (by simp) f1.2 (by simpa using f1.1)
  refine L_timesx (hs.add (sr.mono (n' := s) (m' := f.ts.length) (Nat.le_refl _) (by omega))) s1 (by omega) (by omega) (by omega) ?_
  have ep : (f.sh + NW.mk [-(f.sh.co 0).num] (f.sh.co 0).den) * NW.mk [(1 / f.co f.deg).num] (1 / f.co f.deg).den = f.pl := Pol.ext_ev fun x => by
    have er : ∀ r : Rat, (NW.mk [r.num] r.den).ev x = r := fun r => by rw [← con_eq, ev_con]
    have er2 : ∀ r : Rat, (NW.mk [-r.num] r.den).ev x = -r := fun r => by
      have := er (-r)
      rw [Rat.neg_num, Rat.neg_den] at this
      exact this
    rw [ev_mul, ev_add, er, er2, ev_sh, ev_pl]
    grind
  rw [ep]
  refine L_at_2_to (b9 hf (by omega)) ?_
  refine L_straight_to (n := s) (fl.mono hns) fr (by omega) ?_
  try simp
  exact h
end NW

namespace NW
open PySem PySem.Spec PyProof.Rows L2
theorem plD_lk {f : Pol} (h : f.ts.length ≤ 100) (hl : 3 ≤ f.ts.length) : Lk 4 (plD f) := ⟨by simp, fun x hx => by
  have l1 : ∀ a b : Rat, (Pol.lin a b).ts.length ≤ 1000 := fun a b => by have := ofC_len (qs := [b, a]); unfold Pol.lin; simp at this; omega
  simp at hx
  rcases hx with rfl | rfl | rfl
  · exact lk_poly (n := 0) (l1 _ _)
  · exact lk_poly (n := 0) (by rw [pl_len hl]; omega)
  · exact lk_poly (n := 0) (l1 _ _)⟩
theorem comp_back {f : Pol} (hl : 3 ≤ f.ts.length) : (Pol.lin (f.co f.deg) (f.sh.co 0)).comp f.pl = f.sh ∧ f.sh.comp (Pol.lin 1 f.mid) = f := by
  have hz := lead_ne (f := f) (by omega)
  refine ⟨Pol.ext_ev fun x => ?_, Pol.ext_ev fun x => ?_⟩
  · rw [ev_comp, ev_lin, ev_pl, ev_sh]; grind
  · rw [ev_comp, ev_sh, ev_lin]; congr 1; grind
/-- the plain one of a plain one -/
theorem pl_pl {f : Pol} (hl : 3 ≤ f.ts.length) : f.pl.mid = 0 ∧ f.pl.sh = f.pl ∧ f.pl.pl = f.pl ∧ plD f.pl = .tuple [polyD Pol.X, polyD f.pl, polyD Pol.X] := by
  obtain ⟨t1, t2, t3⟩ := pl_top hl
  have hd := pl_deg hl
  have m0 : f.pl.mid = 0 := by unfold Pol.mid; rw [hd, t2]; grind
  have s0 : f.pl.sh = f.pl := Pol.ext_ev fun x => by rw [ev_sh, m0]; congr 1; grind
  have p0 : f.pl.pl = f.pl := Pol.ext_ev fun x => by rw [ev_pl, m0, s0, hd, t1, t3, show x - 0 = x by grind]; grind
  refine ⟨m0, s0, p0, ?_⟩
  unfold plD
  have e1 : Pol.lin (f.pl.co f.pl.deg) (f.pl.sh.co 0) = Pol.X := Pol.ext_ev fun x => by rw [ev_lin, hd, t1, s0, t3, ev_X]; grind
  have e2 : Pol.lin 1 f.pl.mid = Pol.X := Pol.ext_ev fun x => by rw [ev_lin, m0, ev_X]; grind
  rw [e1, e2, p0]
theorem plain_again {f : Pol} {n : Nat} (hp : PBt (1910 + 133) n f.pl) (hl : 3 ≤ f.ts.length) (hm : f.ts.length ≤ 13) : (m_plain [polyD f.pl]).To fun d => (SeqAt.shaped d = true ∧ SeqAt.shaped (.tuple [polyD Pol.X, polyD f.pl, polyD Pol.X]) = true) ∧ d.eqv (.tuple [polyD Pol.X, polyD f.pl, polyD Pol.X]) = true := by
  obtain ⟨m0, s0, p0, pp⟩ := pl_pl hl
  have hpl := pl_len hl
  have lk : Lk 4 (plD f.pl) := plD_lk (by omega) (by omega)
  rw [pp] at lk
  have hp2 : PBt 2043 f.pl.ts.length f.pl := hp.tight
  generalize f.pl = g at m0 s0 pp hpl lk hp2
  have hm0 : FB 1 g.mid := by rw [m0]; exact FB.zero (by omega)
  have hs : PBt 2043 g.ts.length g.sh := by rw [s0]; exact hp2
  refine plain_to (by omega) (by omega) hp2 (by omega) (by omega) hm0 hs (by omega) (by omega) (by omega) (by omega) (by omega) ?_
  rw [pp]
  exact ⟨⟨lk_shaped lk (by omega), lk_shaped lk (by omega)⟩, lk_eqv lk⟩
theorem sh_sz {f : Pol} (hf : PBt 133 f.ts.length f) (hl : 3 ≤ f.ts.length) (hm : f.ts.length ≤ 13) : PBt 1910 f.ts.length f.sh := by
  have he := mid_FB hf (by omega) (by omega)
  have q1 : (f.ts.length - 1) * 2 ≤ 12 * 2 := Nat.mul_le_mul_right _ (by omega)
  have q2 : (f.ts.length - 1) * (133 + 4 + 11) ≤ 12 * 148 := Nat.mul_le_mul_right _ (by omega)
  have hs0 := hf.comp3 (by omega) (PBt.lin1 he.neg) (by omega)
  exact ⟨by rw [sh_len (by omega)]; exact Nat.le_refl _, (hs0.mono (n' := 1910) (m' := 1000) (by omega) (by omega)).2⟩
theorem plain133 {f : Pol} (hf : PBt 133 f.ts.length f) (hl : 3 ≤ f.ts.length) (hm : f.ts.length ≤ 13) (P : PyData → Prop) (h : P (plD f)) : (m_plain [polyD f]).To P := by
  have he := mid_FB hf (by omega) (by omega)
  have hs := sh_sz hf hl hm
  have q3 : (f.ts.length - 2) * (133 + 4 + 11) ≤ 11 * 148 := Nat.mul_le_mul_right _ (by omega)
  exact plain_to (s := 1910) (by omega) (by omega) hf hl (by omega) he hs (by omega) (by omega) (by omega) (by omega) (by omega) h
theorem drawn_4_to {f : Fl} (hf : FlOk f) : (m_L_drawn_4 [] f).To fun d f' => ∃ p, d = polyD p ∧ 3 ≤ p.ts.length ∧ p.ts.length ≤ 13 ∧ FlOk f' := by
  unfold m_L_drawn_4
  rw [flow_to]
  unfold b_L_drawn_4
  simp [startL]
  refine (degree_drawn_to hf).mono ?_
  rintro _ g1 ⟨n, rfl, n2, n12, o1⟩
  refine (pick_to o1 (by omega) (by omega)).mono ?_
  rintro _ g2 ⟨i, rfl, i1, i2, o2⟩
  by_cases h : i = 0
  · subst h
    simp
    refine (pick_to o2 (by omega) (by omega)).mono ?_
    rintro _ g3 ⟨j, rfl, j1, j2, o3⟩
    simp
    obtain ⟨most, hm, hm1, hm2⟩ : ∃ most : Int, ((idxN 2 (if j = 0 then 1 else 0)).bind fun k => [PyData.int 9, PyData.int 999999999999999999999999999999999999999][k]?) = some (.int most) ∧ 1 ≤ most ∧ most < 10 ^ 39 := by
      by_cases h : j = 0
      · exact ⟨_, by rw [if_pos h]; rfl, by omega, by omega⟩
      · exact ⟨_, by rw [if_neg h]; rfl, by omega, by omega⟩
    refine ⟨_, hm, ?_⟩
    refine (any_poly_to (n := 130) o3 (by omega) hm1 (by omega) (by omega) (by omega) (by omega)).mono ?_
    rintro _ g4 ⟨p, rfl, hp, hpl, o4⟩
    exact ⟨p, rfl, by omega, by omega, o4⟩
  · simp [h]
    refine (plain_one_to o2 n2 n12).mono ?_
    rintro _ g3 ⟨p, rfl, hp, hpl, o3⟩
    refine (any_straight_to (n := 2) o3 (by omega) (by omega) (by omega) (by omega) (by omega)).mono ?_
    rintro _ g4 ⟨a, b, rfl, ha, fa, fb, o4⟩
    try simp
    have s1 := PBt.lin2 fa fb
    have hpn : p.ts ≠ [] := fun e => by rw [e] at hpl; simp at hpl
    refine of3 (by omega) s1 hp (by omega) (by omega) (by omega) ?_
    have s2 := s1.comp3 (by omega) hp (by omega)
    have l2 := len_comp (f := Pol.lin a b) (g := p) (lin_ne ha) (by omega)
    rw [lin_len ha, hpl] at l2
    generalize (Pol.lin a b).comp p = q at s2 l2
    refine (any_straight_to (n := 2) o4 (by omega) (by omega) (by omega) (by omega) (by omega)).mono ?_
    rintro _ g5 ⟨c, e, rfl, hc, fc, fe, o5⟩
    try simp
    have s3 := PBt.lin2 fc fe
    have hqn : q.ts ≠ [] := fun e => by rw [e] at l2; simp at l2
    have q1 : (n + 1 - 2) * (4 + 11) ≤ 11 * 15 := Nat.mul_le_mul_right _ (by omega)
    have q2 : (n + 1 - 1) * 2 ≤ 24 := by omega
    have s2' : PBt 20 (n + 1) q := ⟨by omega, (s2.mono (n' := 20) (m' := 1000) (by omega) (by omega)).2⟩
    refine of3 (by omega) s2' s3 (by omega) (by omega) (by omega) ?_
    have l3 := len_comp (f := q) (g := Pol.lin c e) hqn (by rw [lin_len hc]; omega)
    rw [lin_len hc, l2] at l3
    exact ⟨_, rfl, by omega, by omega, o5⟩

/-! even ones -/
def flipZ : Int → List Int → List Int
  | _, [] => []
  | s, t :: ts => (s * t) :: flipZ (-s) ts
theorem ev_flipZ {x : Rat} : ∀ {ts : List Int} {s : Int}, evZ (flipZ s ts) x = s * evZ ts (-x)
  | [], s => by simp [flipZ, evZ]
  | t :: ts, s => by
    rw [flipZ, evZ, evZ, ev_flipZ, Rat.intCast_mul, Rat.intCast_neg]; grind
theorem flipZ_get : ∀ {ts : List Int} {s : Int} {k : Nat}, (flipZ s ts).getD k 0 = if k % 2 = 0 then s * ts.getD k 0 else -(s * ts.getD k 0)
  | [], s, k => by simp [flipZ]
  | t :: ts, s, 0 => by simp [flipZ]
  | t :: ts, s, k + 1 => by
    rw [flipZ, List.getD_cons_succ, List.getD_cons_succ, flipZ_get]
    by_cases h : k % 2 = 0
    · have h2 : ¬ (k + 1) % 2 = 0 := by omega
      rw [if_pos h, if_neg h2, Int.neg_mul]
    · have h2 : (k + 1) % 2 = 0 := by omega
      rw [if_neg h, if_pos h2, Int.neg_mul, Int.neg_neg]
theorem even_iff {p : Pol} : (∀ x, p.ev (-x) = p.ev x) ↔ ∀ k, k % 2 = 1 → p.ts.getD k 0 = 0 := by
  have hb := p.hb
  have e1 : ∀ x, (NW.mk (flipZ 1 p.ts) p.b).ev x = p.ev (-x) := fun x => by
    rw [ev_mk hb, ev_flipZ]; unfold Pol.ev; simp
  constructor
  · intro h k hk
    have : NW.mk (flipZ 1 p.ts) p.b = p := Pol.ext_ev fun x => by rw [e1, h]
    have e2 := congrArg (fun q => Pol.co q k) this
    simp only [co_mk hb, flipZ_get] at e2
    rw [if_neg (by omega)] at e2
    unfold Pol.co at e2
    have := (Rat.divInt_eq_divInt_iff (by omega) (by omega)).mp e2
    have h3 := Int.eq_of_mul_eq_mul_right (by omega : (p.b : Int) ≠ 0) this
    omega
  · intro h x
    have : NW.mk (flipZ 1 p.ts) p.b = p := Pol.ext_co fun k => by
      rw [co_mk hb, flipZ_get]
      unfold Pol.co
      split
      · simp
      · rw [h k (by omega)]; simp
    rw [← e1, this]
/-- what turns about the middle -/
def Pol.about (f : Pol) : Pol := Pol.lin (-1) (-2 * f.mid)
theorem ev_about {f : Pol} {x : Rat} : f.about.ev x = -x - 2 * f.mid := by unfold Pol.about; rw [ev_lin]; grind
theorem about_iff {f : Pol} (hl : 3 ≤ f.ts.length) : f.comp f.about = f ↔ ∀ k, k % 2 = 1 → f.pl.ts.getD k 0 = 0 := by
  rw [← even_iff]
  have hz := lead_ne (f := f) (by omega)
  constructor
  · intro h x
    have := congrArg (fun q => Pol.ev q (x - f.mid)) h
    simp only [ev_comp, ev_about] at this
    rw [ev_pl, ev_pl]
    rw [show -(x - f.mid) - 2 * f.mid = -x - f.mid by grind] at this
    rw [this]
  · intro h
    refine Pol.ext_ev fun x => ?_
    have := h (x + f.mid)
    rw [ev_pl, ev_pl] at this
    rw [ev_comp, ev_about]
    rw [show -(x + f.mid) - f.mid = -x - 2 * f.mid by grind, show x + f.mid - f.mid = x by grind] at this
    grind
end NW

namespace NW
open PySem PySem.Spec PyProof.Rows L2
/-! ### chains -/
theorem forM_cons {d : ItD} {t : MT} {b : MS} {x : PyData} {xs : List PyData} {l : NW.Loc} {st : Sto} {N : NW.Loc → Sto → Prop} {R : U → Sto → Prop} (hk : d.chk st)
    (h : (t (.d x) l st).To fun l s => (b l s).To (fun l s => (forM d t b xs l s).To N R) R) : (forM d t b (x :: xs) l st).To N R := by
  rw [forM, if_pos hk, to_out]
  refine h.mono fun l1 s1 h1 => ?_
  cases e : b l1 s1 with
  | nx l2 s2 => rw [e] at h1; exact h1
  | rt u s2 => rw [e] at h1; exact h1
  | _ => rw [e] at h1; exact h1.elim
theorem forM_nil {d : ItD} {t : MT} {b : MS} {l : NW.Loc} {st : Sto} {N : NW.Loc → Sto → Prop} {R : U → Sto → Prop} (hk : d.chk st) (h : N l st) : (forM d t b [] l st).To N R := by
  rw [forM, if_pos hk]; exact h
theorem maxI_all {xs : List Int} {m : Int} (h : maxI xs = some m) : ∀ y, y ∈ xs → y ≤ m := by
  cases xs with
  | nil => intro y hy; cases hy
  | cons x xs =>
    obtain ⟨a, b, _⟩ := maxI_cons h
    intro y hy
    rcases List.mem_cons.mp hy with rfl | hy
    · exact a
    · exact b y hy
def chD (fs : List Pol) : PyData := .tuple (fs.map polyD)
theorem fits_to {fs : List Pol} (hl : fs.length ≤ 1000) (hf : ∀ f, f ∈ fs → f.ts.length ≤ 1000) : (m_L_fits [chD fs]).To fun d => ∃ b, d = .bool b ∧ (b = true → ∀ f, f ∈ fs → PBt 133 f.ts.length f) := by
  unfold m_L_fits
  rw [pure_to]
  unfold b_L_fits
  simp [startL, chD]
  obtain ⟨I, hI⟩ : ∃ I : List PyData → NW.Loc → Sto → Prop, ∀ xs l s, I xs l s ↔ s = ⟨none, []⟩ ∧ ∃ as bs : List Pol, fs = as ++ bs ∧ xs = bs.map polyD ∧ (∀ f, f ∈ as → PBt 133 f.ts.length f) ∧ ∃ v w, l = [some (.d (.tuple (fs.map polyD))), v, w] := ⟨_, fun _ _ _ => Iff.rfl⟩
  refine for_to (I := I) (fun _ _ _ _ => chk_nil) ?_ ?_ _ _ _ ((hI _ _ _).mpr ⟨rfl, [], fs, rfl, rfl, by simp, _, _, rfl⟩)
  · rintro x xs l s h
    obtain ⟨rfl, as, bs, e, e2, ha, v, w, rfl⟩ := (hI _ _ _).mp h
    clear h
    cases bs with
    | nil => cases e2
    | cons f bs =>
      cases e2
      have hfl := hf f (by rw [e]; simp)
      have next : PBt 133 f.ts.length f → I (bs.map polyD) [some (U.d (PyData.tuple (fs.map polyD))), some (U.d (polyD f)), w] ⟨none, []⟩ := fun hp => (hI _ _ _).mpr ⟨rfl, as ++ [f], bs, by rw [e]; simp, rfl, fun g hg => by
        rcases List.mem_append.mp hg with hg | hg
        · exact ha g hg
        · have : g = f := by simpa using hg
          subst this; exact hp, _, _, rfl⟩
      simp
      refine ⟨by omega, ?_⟩
      refine lc_mapA (f := PyData.int) (g := fun t => .int (absI t)) chk_nil ?_ ?_
      · intro t ht
        simp [wipeL, absI]
      · have e3 : (f.ts.map fun t => PyData.int (absI t)) ++ [PyData.int f.b] = (f.ts.map absI ++ [(f.b : Int)]).map .int := by simp
        obtain ⟨m, hm⟩ : ∃ m, maxI (f.ts.map absI ++ [(f.b : Int)]) = some m := by
          cases f.ts with
          | nil => exact ⟨_, rfl⟩
          | cons t ts => exact ⟨_, rfl⟩
        have ml := maxI_all hm
        simp only [to_ok, to_addL, List.length_map, List.length_cons, List.length_nil]
        rw [e3, to_maxL]
        refine ⟨by omega, m, hm, ?_⟩
        have t4 := ten40'
        by_cases hc : (10000000000000000000000000000000000000000 : Int) ≤ m
        · have hc' : ¬ m < 10000000000000000000000000000000000000000 := by omega
          simp [hc, hc']
        · have hc' : m < 10000000000000000000000000000000000000000 := by omega
          simp [hc, hc']
          refine next ⟨Nat.le_refl _, ?_, fun t ht => ?_⟩
          · have := ml f.b (by simp)
            omega
          · have := ml (absI t) (List.mem_append.mpr (.inl (List.mem_map_of_mem ht)))
            rw [abs_eq] at this
            omega
  · rintro l s h
    obtain ⟨rfl, as, bs, e, e2, ha, v, w, rfl⟩ := (hI _ _ _).mp h
    clear h
    have : bs = [] := by cases bs with | nil => rfl | cons c bs => cases e2
    subst this
    try simp
    rw [e, List.append_nil]
    exact ha
/-! put together -/
theorem together1 {f : Pol} {P : PyData → Prop} (h : P (polyD f)) : (m_together [chD [f]]).To P := by
  unfold m_together
  rw [pure_to]
  unfold b_together
  have e : idxN 1 (-1) = some 0 := rfl
  have ec : NW.cutD [polyD f] none (some (-1)) = [] := rfl
  simp [startL, chD, e, ec]
  refine ⟨_, _, ⟨rfl, rfl⟩, ?_⟩
  refine forM_nil chk_nil ?_
  simpa using h
theorem together2 {f g : Pol} {n n2 m1 m : Nat} {P : PyData → Prop} (h0 : 0 < n) (hf : PBt n m1 f) (hg : PBt n2 m g) (hm : m ≤ 1000) (hl : (m1 - 1) * m + 1 ≤ 1000) (hn : (m1 - 2) * (n2 + 11) + 2 * n + n2 + 11 ≤ 8999) (h : P (polyD (f.comp g))) : (m_together [chD [f, g]]).To P := by
  unfold m_together
  rw [pure_to]
  unfold b_together
  have e : idxN 2 (-1) = some 1 := rfl
  have ec : NW.cutD [polyD f, polyD g] none (some (-1)) = [polyD f] := rfl
  simp [startL, chD, e, ec]
  refine forM_cons chk_nil ?_
  simp
  refine put3 h0 hf hg hm hl hn ?_
  exact forM_nil chk_nil (by simp; exact h)
theorem together3 {f g k : Pol} {n n2 n3 n4 m1 m2 m3 m4 : Nat} {P : PyData → Prop} (h0 : 0 < n) (h02 : 0 < n2) (hf : PBt n m1 f) (hg : PBt n2 m2 g) (hk : PBt n3 m3 k) (hgk : PBt n4 m4 (g.comp k)) (hm : m3 ≤ 1000) (hl : (m2 - 1) * m3 + 1 ≤ 1000) (hn : (m2 - 2) * (n3 + 11) + 2 * n2 + n3 + 11 ≤ 8999) (hm' : m4 ≤ 1000) (hl' : (m1 - 1) * m4 + 1 ≤ 1000) (hn' : (m1 - 2) * (n4 + 11) + 2 * n + n4 + 11 ≤ 8999) (h : P (polyD (f.comp (g.comp k)))) : (m_together [chD [f, g, k]]).To P := by
  unfold m_together
  rw [pure_to]
  unfold b_together
  have e : idxN 3 (-1) = some 2 := rfl
  have ec : NW.cutD [polyD f, polyD g, polyD k] none (some (-1)) = [polyD f, polyD g] := rfl
  simp [startL, chD, e, ec]
  refine forM_cons chk_nil ?_
  simp
  refine put3 h02 hg hk hm hl hn ?_
  refine forM_cons chk_nil ?_
  simp
  refine put3 h0 hf hgk hm' hl' hn' ?_
  exact forM_nil chk_nil (by simp; exact h)
end NW

namespace NW
open PySem PySem.Spec PyProof.Rows L2
/-! ### neat chains -/
def Pol.ins (w : Pol) : Pol := Pol.lin (w.co w.deg) (w.co 0)
def Pol.nm (w : Pol) : Pol := (w - NW.ofC [w.co 0]).sc (1 / w.co w.deg)
theorem ev_ins {w : Pol} {x : Rat} : w.ins.ev x = w.co w.deg * x + w.co 0 := by unfold Pol.ins; rw [ev_lin]
theorem ev_nm {w : Pol} {x : Rat} : w.nm.ev x = (w.ev x - w.co 0) / w.co w.deg := by
  unfold Pol.nm; rw [ev_sc, ev_sub, ev_con]; grind
theorem co_nm {w : Pol} {k : Nat} : w.nm.co k = if k = 0 then 0 else w.co k / w.co w.deg := by
  unfold Pol.nm
  rw [co_sc, co_sub, co_con]
  split
  · rename_i h; subst h; grind
  · grind
theorem nm_len {w : Pol} (hl : 2 ≤ w.ts.length) : w.nm.ts.length = w.ts.length := len_of (fun k hk => by
  rw [co_nm, if_neg (by omega), co_zero_of hk]; grind) fun _ => by
  have hz := lead_ne (f := w) (by omega)
  show w.nm.co w.deg ≠ 0
  rw [co_nm, if_neg (by unfold Pol.deg; omega)]
  grind
theorem nm_deg {w : Pol} (hl : 2 ≤ w.ts.length) : w.nm.deg = w.deg := by unfold Pol.deg; rw [nm_len hl]
theorem nm_top {w : Pol} (hl : 2 ≤ w.ts.length) : w.nm.co w.nm.deg = 1 ∧ w.nm.co 0 = 0 := by
  have hz := lead_ne (f := w) (by omega)
  refine ⟨?_, by rw [co_nm, if_pos rfl]⟩
  rw [nm_deg hl, co_nm, if_neg (by unfold Pol.deg; omega)]
  grind
theorem ins_len {w : Pol} (hl : 1 ≤ w.ts.length) : w.ins.ts.length = 2 := lin_len (lead_ne hl)
theorem ins_sz {w : Pol} {n m : Nat} (hw : PBt n m w) (hl : 1 ≤ w.ts.length) : PBt n 2 w.ins := by
  refine PBt.rep (D := w.b) (N := fun k => if k = 0 then w.ts.getD 0 0 else if k = 1 then w.ts.getD w.deg 0 else 0) w.hb (fun k => ?_) hw.2.1 (fun k => ?_) fun k hk => co_zero_of (by rw [ins_len hl]; exact hk)
  · unfold Pol.ins
    match k with
    | 0 => rw [co_lin0]; rfl
    | 1 => rw [co_lin1]; rfl
    | k + 2 => rw [co_zero_of (by have := ins_len hl; unfold Pol.ins at this; omega)]; simp
  · show (if k = 0 then w.ts.getD 0 0 else if k = 1 then w.ts.getD w.deg 0 else 0).natAbs < _
    split
    · exact hw.get _
    · split
      · exact hw.get _
      · simp [Nat.two_pow_pos]
theorem nm_sz {w : Pol} {n m : Nat} (hw : PBt n m w) (hl : 2 ≤ w.ts.length) : PBt n w.ts.length w.nm := by
  have hz := tr_get w.ht (fun e => by rw [e] at hl; simp at hl)
  generalize ht : w.ts.getD w.deg 0 = t at *
  have ht' : w.ts.getD (w.ts.length - 1) 0 = t := ht
  rw [ht'] at hz
  have tb : t.natAbs < 2 ^ n := by rw [← ht]; exact hw.get _
  have t0 : 0 < t.natAbs := by omega
  have lead : w.co w.deg = (t : Rat) / ((w.b : Int) : Rat) := by unfold Pol.co; rw [ht, divInt_div]
  refine PBt.rep (D := t.natAbs) (N := fun k => if k = 0 then 0 else w.ts.getD k 0 * t.sign) t0 (fun k => ?_) tb (fun k => ?_) fun k hk => co_zero_of (by rw [nm_len hl]; exact hk)
  · rw [co_nm]
    split
    · simp
    · rw [lead]
      unfold Pol.co
      rw [divInt_div, divInt_div, Rat.intCast_mul]
      have e : (t : Rat) = ((t.sign : Int) : Rat) * (((t.natAbs : Nat) : Int) : Rat) := by
        rw [← Rat.intCast_mul, Int.sign_mul_natAbs]
      have hs2 : ((t.sign : Int) : Rat) * ((t.sign : Int) : Rat) = 1 := by
        rw [← Rat.intCast_mul]
        rcases Int.lt_trichotomy t 0 with h | h | h
        · rw [Int.sign_eq_neg_one_of_neg h]; rfl
        · exact absurd h hz
        · rw [Int.sign_eq_one_of_pos h]; rfl
      have hn : (((t.natAbs : Nat) : Int) : Rat) ≠ 0 := fun e => by have := Rat.intCast_eq_zero_iff.mp e; omega
      have h1 := w.bne
      rw [e]
      generalize ((t.sign : Int) : Rat) = s at *
      grind
  · show (if k = 0 then (0 : Int) else w.ts.getD k 0 * t.sign).natAbs < _
    split
    · simp [Nat.two_pow_pos]
    · rw [Int.natAbs_mul, Int.natAbs_sign_of_ne_zero hz, Nat.mul_one]
      exact hw.get k
/-- a straight one outside changes neither the neat one nor what is inside but for it -/
theorem lin_top {w : Pol} {a b : Rat} (ha : a ≠ 0) (hl : 2 ≤ w.ts.length) : ((Pol.lin a b).comp w).ts.length = w.ts.length ∧ ((Pol.lin a b).comp w).co w.deg = a * w.co w.deg ∧ ((Pol.lin a b).comp w).co 0 = a * w.co 0 + b := by
  have l := len_comp (f := Pol.lin a b) (g := w) (lin_ne ha) hl
  rw [lin_len ha] at l
  refine ⟨by omega, ?_, ?_⟩
  · have h := comp_top (f := Pol.lin a b) (g := w) (lin_ne ha) hl
    have d : (Pol.lin a b).deg = 1 := by unfold Pol.deg; rw [lin_len ha]
    rw [d, co_lin1, Nat.one_mul] at h
    rw [h]; grind
  · have e : ∀ p : Pol, p.co 0 = p.ev 0 := fun p => by
      unfold Pol.co Pol.ev
      rw [divInt_div]
      congr 1
      cases p.ts with
      | nil => simp [evZ]
      | cons t ts => simp [evZ]; grind
    rw [e, e, ev_comp, ev_lin]
theorem nm_lin {w : Pol} {a b : Rat} (ha : a ≠ 0) (hl : 2 ≤ w.ts.length) : ((Pol.lin a b).comp w).nm = w.nm ∧ ((Pol.lin a b).comp w).ins = (Pol.lin a b).comp w.ins := by
  obtain ⟨l, t, z⟩ := lin_top (b := b) ha hl
  have hz := lead_ne (f := w) (by omega)
  have d : ((Pol.lin a b).comp w).deg = w.deg := by unfold Pol.deg; rw [l]
  refine ⟨Pol.ext_ev fun x => ?_, Pol.ext_ev fun x => ?_⟩
  · rw [ev_nm, ev_nm, d, t, z, ev_comp, ev_lin]; grind
  · rw [ev_ins, d, t, z, ev_comp, ev_lin, ev_ins]; grind
theorem ins_nm {w : Pol} (hl : 2 ≤ w.ts.length) : w.ins.comp w.nm = w := Pol.ext_ev fun x => by
  have hz := lead_ne (f := w) (by omega)
  rw [ev_comp, ev_ins, ev_nm]; grind
theorem nm_nm {w : Pol} (hl : 2 ≤ w.ts.length) : w.nm.nm = w.nm ∧ w.nm.ins = Pol.X := by
  obtain ⟨t, z⟩ := nm_top hl
  refine ⟨Pol.ext_ev fun x => ?_, Pol.ext_ev fun x => ?_⟩
  · rw [ev_nm (w := w.nm), t, z]; grind
  · rw [ev_ins, t, z, ev_X]; grind
theorem comp_X {f : Pol} : f.comp Pol.X = f := Pol.ext_ev fun x => by rw [ev_comp, ev_X]
theorem X_comp {f : Pol} : Pol.X.comp f = f := Pol.ext_ev fun x => by rw [ev_comp, ev_X]
theorem comp_assoc {f g k : Pol} : (f.comp g).comp k = f.comp (g.comp k) := Pol.ext_ev fun x => by rw [ev_comp, ev_comp, ev_comp, ev_comp]
theorem comp_lin_len {g i : Pol} (hg : g.ts ≠ []) (hi : i.ts.length = 2) : (g.comp i).ts.length = g.ts.length := by
  rw [len_comp hg (by omega), hi]
  have := List.length_pos_iff.mpr hg
  omega
/-! the program's -/
theorem neat_in {g i : Pol} {n n2 s m1 : Nat} {P : PyData → PyData → PyData → PyData → Prop} (h0 : 0 < n) (hg : PBt n m1 g) (h2 : 2 ≤ g.ts.length) (hm : m1 ≤ 13) (hi : PBt n2 2 i) (hl : i.ts.length = 2) (hw : PBt s 13 (g.comp i)) (hs : s ≤ 2000) (hn : (m1 - 2) * (n2 + 11) + 2 * n + n2 + 11 ≤ 8999)
    (h : P (polyD (g.comp i)) (fracD ((g.comp i).co 0)) (polyD (g.comp i).ins) (polyD (g.comp i).nm)) :
    (m_put [polyD g, polyD i]).To fun d =>
    (m_fraction_at [d, PyData.int 0]).To fun d_1 =>
      (m_lead [d]).To fun d_2 =>
        (m_straight [d_2, d_1]).To fun d_3 =>
          (m_poly [PyData.list [d_1]]).To fun d_4 =>
            (m_minus [d, d_4]).To fun d_5 =>
              (m_lead [d]).To fun d_6 =>
                (m_divided [PyData.tuple [PyData.int 1, PyData.int 1], d_6]).To fun d_7 =>
                  (m_scaled [d_5, d_7]).To fun d_8 => P d d_1 d_3 d_8 := by
  have gne : g.ts ≠ [] := fun e => by rw [e] at h2; simp at h2
  have wl := comp_lin_len gne hl
  refine put3 h0 hg hi (by omega) (by omega) hn ?_
  have s0 : 1 ≤ s := by
    rcases Nat.eq_zero_or_pos s with e | e
    · have := hw.2.1
      have hb := (g.comp i).hb
      rw [e] at this
      simp at this
      omega
    · exact e
  generalize g.comp i = w at *
  have hz := lead_ne (f := w) (by omega)
  have e3 : w.co (w.ts.length - 1) = w.co w.deg := rfl
  have fr := co_FB (k := 0) hw
  have fl := co_FB (k := w.deg) hw
  have f1 : FB (s + 1) (1 / w.co w.deg) := ((FB.one (n := 1) (by omega)).div2 fl hz).mono (by omega)
  refine fraction_at_to (k := 0) (b9 hw (by omega)) ?_
  refine lead_to (b9 hw (by omega)) ?_
  rw [e3]
  refine straight_to fl fr s0 (by omega) ?_
  refine poly1_to fr s0 (by omega) ?_
  refine minusx hw ((PBt.con fr).mono (Nat.le_refl _) (by omega)) (by omega) (by omega) ?_
  refine lead_to (b9 hw (by omega)) ?_
  rw [e3, fracD_11]
  refine dividedx (FB.one (n := 1) (by omega)) fl hz (by omega) ?_
  exact scaledx (hw.sub ((PBt.con fr).mono (n' := s) (m' := 13) (Nat.le_refl _) (by omega))) f1 (by omega) (by omega) h
theorem neat1 {f : Pol} {P : PyData → Prop} (hf : PBt 133 13 f) (h : P (chD [f])) : (m_neat [chD [f]]).To P := by
  unfold m_neat
  rw [pure_to]
  unfold b_neat
  have eX : (c_LETTER : PyData) = polyD Pol.X := rfl
  have ec : NW.cutD [polyD f] (some 1) none = [] := rfl
  simp [startL, chD, eX, ec]
  refine ⟨_, _, ⟨rfl, rfl⟩, ?_⟩
  refine forM_nil chk_nil ?_
  simp
  refine put3 (by decide) hf PBt.X (by omega) (by omega) (by decide) ?_
  rw [comp_X]
  try simp
  exact h
theorem neat2 {f g : Pol} {P : PyData → Prop} (hf : PBt 1000 7 f) (hg : PBt 133 7 g) (h2 : 2 ≤ g.ts.length) (h : P (chD [f.comp g.ins, g.nm])) : (m_neat [chD [f, g]]).To P := by
  unfold m_neat
  rw [pure_to]
  unfold b_neat
  have eX : (c_LETTER : PyData) = polyD Pol.X := rfl
  have ec : NW.cutD [polyD f, polyD g] (some 1) none = [polyD g] := rfl
  have si := ins_sz hg (by omega)
  simp [startL, chD, eX, ec]
  refine forM_cons chk_nil ?_
  simp
  refine neat_in (s := 133) (by decide) hg h2 (by omega) PBt.X rfl (by rw [comp_X]; exact hg.mono (by omega) (by omega)) (by omega) (by decide) ?_
  rw [comp_X]
  refine forM_nil chk_nil ?_
  simp
  refine put3 (by decide) hf si (by omega) (by omega) (by decide) ?_
  try simp
  exact h
theorem neat3 {f g k : Pol} {P : PyData → Prop} (hf : PBt 1866 4 f) (hg : PBt 566 4 g) (hk : PBt 133 4 k) (h2 : 2 ≤ g.ts.length) (h3 : 2 ≤ k.ts.length) (h : P (chD [f.comp (g.comp k.ins).ins, (g.comp k.ins).nm, k.nm])) : (m_neat [chD [f, g, k]]).To P := by
  unfold m_neat
  rw [pure_to]
  unfold b_neat
  have eX : (c_LETTER : PyData) = polyD Pol.X := rfl
  have ec : NW.cutD [polyD f, polyD g, polyD k] (some 1) none = [polyD g, polyD k] := rfl
  have si := ins_sz hk (by omega)
  have gne : g.ts ≠ [] := fun e => by rw [e] at h2; simp at h2
  have wl := comp_lin_len gne (ins_len (w := k) (by omega))
  have sw := (hg.comp3 (by decide) si (by decide)).mono (n' := 999) (m' := 13) (by decide) (by decide)
  have sw2 := ins_sz sw (by omega)
  simp [startL, chD, eX, ec]
  refine forM_cons chk_nil ?_
  simp
  refine neat_in (s := 133) (by decide) hk h3 (by omega) PBt.X rfl (by rw [comp_X]; exact hk.mono (by omega) (by omega)) (by omega) (by decide) ?_
  rw [comp_X]
  refine forM_cons chk_nil ?_
  simp
  refine neat_in (s := 999) (by decide) hg h2 (by omega) si (ins_len (by omega)) sw (by omega) (by decide) ?_
  refine forM_nil chk_nil ?_
  simp
  refine put3 (by decide) hf sw2 (by omega) (by omega) (by decide) ?_
  try simp
  exact h
/-! the law's own -/
theorem er_con {r x : Rat} : (NW.mk [-r.num] r.den).ev x = -r := by
  have := ev_con (r := -r) (x := x)
  rw [con_eq, Rat.neg_num, Rat.neg_den] at this
  exact this
theorem L_back_to {r : Rat} {n : Nat} {P : PyData → Prop} (hr : FB n r) (hn : n ≤ 8000) (hz : r ≠ 0) (h : P (fracD (1 / r))) : (m_L_fraction [.int r.den, .int r.num]).To P := by
  have hn0 : r.num ≠ 0 := fun e => hz (Rat.num_eq_zero.mp e)
  refine L_fraction_to hn0 (Nat.lt_of_lt_of_le hr.1 (pw_le (by omega))) ?_
  have e : Rat.divInt (r.den : Int) r.num = 1 / r := by
    rw [divInt_div]
    have er := Rat.num_divInt_den r
    rw [divInt_div] at er
    have zb : ((r.den : Int) : Rat) ≠ 0 := fun e => den_ne r (Rat.intCast_eq_zero_iff.mp e)
    have zn : (r.num : Rat) ≠ 0 := fun e => hn0 (Rat.intCast_eq_zero_iff.mp e)
    conv => rhs; rw [← er]
    grind
  rw [e]
  exact h
theorem Lneat2 {f g : Pol} {P : PyData → Prop} (hf : PBt 133 7 f) (hg : PBt 133 7 g) (h2 : 2 ≤ g.ts.length) (h : P (chD [f.comp g.ins, g.nm])) : (m_L_neat_of [chD [f, g]]).To P := by
  unfold m_L_neat_of
  rw [pure_to]
  unfold b_L_neat_of
  have ec : NW.cutD [polyD f, polyD g] (some 1) none = [polyD g] := rfl
  have si := ins_sz hg (by omega)
  have hgl := hg.1
  simp [startL, chD, ec]
  refine forM_cons chk_nil ?_
  simp
  rw [polyD_X]
  refine of3 (by decide) hg PBt.X (by omega) (by omega) (by decide) ?_
  have sw : PBt 133 13 (g.comp Pol.X) := by rw [comp_X]; exact hg.mono (by omega) (by omega)
  have wl : (g.comp Pol.X).ts.length = g.ts.length := comp_lin_len (fun e => by rw [e] at h2; simp at h2) (by first | rfl | exact ins_len (by omega))
  rw [comp_X] at sw wl ⊢
  have hz := lead_ne (f := g) (by omega)
  have fr := co_FB (k := 0) sw
  have fl := co_FB (k := g.deg) sw
  have f1 : FB (133 + 1) (1 / g.co g.deg) := ((FB.one (n := 1) (by omega)).div2 fl hz).mono (by omega)
  have e1 : (g.ts.length : Int) - 1 = (g.deg : Int) := by unfold Pol.deg; omega
  have sr : PBt 133 1 (NW.mk [-(g.co 0).num] (g.co 0).den) := PBt.mk (Rat.den_pos _) (by simp) fr.2 (by simpa using fr.1)
  have s1 : PBt (133 + 1) 1 (NW.mk [(1 / g.co g.deg).num] (1 / g.co g.deg).den) := PBt.mk (Rat.den_pos _) (by simp) f1.2 (by simpa using f1.1)
  have hm9 : g.ts.length ≤ 13 := by omega
  simp
  rw [e1]
  refine L_at_2_to (b9 sw (by omega)) ?_
  refine L_at_2_to (k := 0) (b9 sw (by omega)) ?_
  refine L_straight_to fl fr (by omega) ?_
  simp
  refine L_poly_to (ts := [-(g.co 0).num]) (.inl rfl) (Rat.den_pos _) (Nat.lt_of_lt_of_le fr.2 (pw_le (by omega))) (by simp) ?_
  refine L_sumx sw (sr.mono (Nat.le_refl _) (by omega)) (by omega) (by omega) ?_
  refine L_back_to fl (by omega) hz ?_
  simp
  refine L_poly_to (ts := [(1 / g.co g.deg).num]) (.inl rfl) (Rat.den_pos _) (Nat.lt_of_lt_of_le f1.2 (pw_le (by omega))) (by simp) ?_
  refine L_timesx (sw.add (sr.mono (n' := 133) (m' := 13) (Nat.le_refl _) (by omega))) s1 (by omega) (by omega) (by omega) ?_
  have ep : (g + NW.mk [-(g.co 0).num] (g.co 0).den) * NW.mk [(1 / g.co g.deg).num] (1 / g.co g.deg).den = g.nm := Pol.ext_ev fun x => by
    rw [ev_mul, ev_add, er_con, ← con_eq, ev_con, ev_nm]
    grind
  rw [ep]
  have ei : Pol.lin (g.co g.deg) (g.co 0) = g.ins := rfl
  rw [ei]
  try clear sr s1 e1 f1 fr fl hz ep ei hm9
  try simp
  refine forM_nil chk_nil ?_
  simp
  refine of3 (by decide) hf si (by omega) (by omega) (by decide) ?_
  try simp
  exact h
theorem Lneat3 {f g k : Pol} {P : PyData → Prop} (hf : PBt 133 4 f) (hg : PBt 133 4 g) (hk : PBt 133 4 k) (h2 : 2 ≤ g.ts.length) (h3 : 2 ≤ k.ts.length) (h : P (chD [f.comp (g.comp k.ins).ins, (g.comp k.ins).nm, k.nm])) : (m_L_neat_of [chD [f, g, k]]).To P := by
  unfold m_L_neat_of
  rw [pure_to]
  unfold b_L_neat_of
  have ec : NW.cutD [polyD f, polyD g, polyD k] (some 1) none = [polyD g, polyD k] := rfl
  have si := ins_sz hk (by omega)
  have gne : g.ts ≠ [] := fun e => by rw [e] at h2; simp at h2
  have wl2 := comp_lin_len gne (ins_len (w := k) (by omega))
  have sw0 := (hg.comp3 (by decide) si (by decide)).mono (n' := 566) (m' := 13) (by decide) (by decide)
  have sw2 := ins_sz sw0 (by omega)
  have hgl := hg.1
  have hkl := hk.1
  simp [startL, chD, ec]
  refine forM_cons chk_nil ?_
  simp
  rw [polyD_X]
  refine of3 (by decide) hk PBt.X (by omega) (by omega) (by decide) ?_
  have sw : PBt 133 13 (k.comp Pol.X) := by rw [comp_X]; exact hk.mono (by omega) (by omega)
  have wl : (k.comp Pol.X).ts.length = k.ts.length := comp_lin_len (fun e => by rw [e] at h3; simp at h3) (by first | rfl | exact ins_len (by omega))
  rw [comp_X] at sw wl ⊢
  have hz := lead_ne (f := k) (by omega)
  have fr := co_FB (k := 0) sw
  have fl := co_FB (k := k.deg) sw
  have f1 : FB (133 + 1) (1 / k.co k.deg) := ((FB.one (n := 1) (by omega)).div2 fl hz).mono (by omega)
  have e1 : (k.ts.length : Int) - 1 = (k.deg : Int) := by unfold Pol.deg; omega
  have sr : PBt 133 1 (NW.mk [-(k.co 0).num] (k.co 0).den) := PBt.mk (Rat.den_pos _) (by simp) fr.2 (by simpa using fr.1)
  have s1 : PBt (133 + 1) 1 (NW.mk [(1 / k.co k.deg).num] (1 / k.co k.deg).den) := PBt.mk (Rat.den_pos _) (by simp) f1.2 (by simpa using f1.1)
  have hm9 : k.ts.length ≤ 13 := by omega
  simp
  rw [e1]
  refine L_at_2_to (b9 sw (by omega)) ?_
  refine L_at_2_to (k := 0) (b9 sw (by omega)) ?_
  refine L_straight_to fl fr (by omega) ?_
  simp
  refine L_poly_to (ts := [-(k.co 0).num]) (.inl rfl) (Rat.den_pos _) (Nat.lt_of_lt_of_le fr.2 (pw_le (by omega))) (by simp) ?_
  refine L_sumx sw (sr.mono (Nat.le_refl _) (by omega)) (by omega) (by omega) ?_
  refine L_back_to fl (by omega) hz ?_
  simp
  refine L_poly_to (ts := [(1 / k.co k.deg).num]) (.inl rfl) (Rat.den_pos _) (Nat.lt_of_lt_of_le f1.2 (pw_le (by omega))) (by simp) ?_
  refine L_timesx (sw.add (sr.mono (n' := 133) (m' := 13) (Nat.le_refl _) (by omega))) s1 (by omega) (by omega) (by omega) ?_
  have ep : (k + NW.mk [-(k.co 0).num] (k.co 0).den) * NW.mk [(1 / k.co k.deg).num] (1 / k.co k.deg).den = k.nm := Pol.ext_ev fun x => by
    rw [ev_mul, ev_add, er_con, ← con_eq, ev_con, ev_nm]
    grind
  rw [ep]
  have ei : Pol.lin (k.co k.deg) (k.co 0) = k.ins := rfl
  rw [ei]
  try clear sr s1 e1 f1 fr fl hz ep ei hm9
  try simp
  clear sw wl
  refine forM_cons chk_nil ?_
  simp
  refine of3 (by decide) hg si (by omega) (by omega) (by decide) ?_
  have sw : PBt 566 13 (g.comp k.ins) := sw0
  have wl : (g.comp k.ins).ts.length = g.ts.length := comp_lin_len (fun e => by rw [e] at h2; simp at h2) (by first | rfl | exact ins_len (by omega))
  generalize hw : g.comp k.ins = w at *
  have hz := lead_ne (f := w) (by omega)
  have fr := co_FB (k := 0) sw
  have fl := co_FB (k := w.deg) sw
  have f1 : FB (566 + 1) (1 / w.co w.deg) := ((FB.one (n := 1) (by omega)).div2 fl hz).mono (by omega)
  have e1 : (w.ts.length : Int) - 1 = (w.deg : Int) := by unfold Pol.deg; omega
  have sr : PBt 566 1 (NW.mk [-(w.co 0).num] (w.co 0).den) := PBt.mk (Rat.den_pos _) (by simp) fr.2 (by simpa using fr.1)
  have s1 : PBt (566 + 1) 1 (NW.mk [(1 / w.co w.deg).num] (1 / w.co w.deg).den) := PBt.mk (Rat.den_pos _) (by simp) f1.2 (by simpa using f1.1)
  have hm9 : w.ts.length ≤ 13 := by omega
  simp
  rw [e1]
  refine L_at_2_to (b9 sw (by omega)) ?_
  refine L_at_2_to (k := 0) (b9 sw (by omega)) ?_
  refine L_straight_to fl fr (by omega) ?_
  simp
  refine L_poly_to (ts := [-(w.co 0).num]) (.inl rfl) (Rat.den_pos _) (Nat.lt_of_lt_of_le fr.2 (pw_le (by omega))) (by simp) ?_
  refine L_sumx sw (sr.mono (Nat.le_refl _) (by omega)) (by omega) (by omega) ?_
  refine L_back_to fl (by omega) hz ?_
  simp
  refine L_poly_to (ts := [(1 / w.co w.deg).num]) (.inl rfl) (Rat.den_pos _) (Nat.lt_of_lt_of_le f1.2 (pw_le (by omega))) (by simp) ?_
  refine L_timesx (sw.add (sr.mono (n' := 566) (m' := 13) (Nat.le_refl _) (by omega))) s1 (by omega) (by omega) (by omega) ?_
  have ep : (w + NW.mk [-(w.co 0).num] (w.co 0).den) * NW.mk [(1 / w.co w.deg).num] (1 / w.co w.deg).den = w.nm := Pol.ext_ev fun x => by
    rw [ev_mul, ev_add, er_con, ← con_eq, ev_con, ev_nm]
    grind
  rw [ep]
  have ei : Pol.lin (w.co w.deg) (w.co 0) = w.ins := rfl
  rw [ei]
  try clear sr s1 e1 f1 fr fl hz ep ei hm9
  try simp
  refine forM_nil chk_nil ?_
  simp
  refine of3 (by decide) hf sw2 (by omega) (by omega) (by decide) ?_
  try simp
  exact h
theorem Lneat1 {f : Pol} {P : PyData → Prop} (hf : PBt 133 13 f) (h : P (chD [f])) : (m_L_neat_of [chD [f]]).To P := by
  unfold m_L_neat_of
  rw [pure_to]
  unfold b_L_neat_of
  have ec : NW.cutD [polyD f] (some 1) none = [] := rfl
  simp [startL, chD, ec]
  refine ⟨_, _, ⟨rfl, rfl⟩, ?_⟩
  refine forM_nil chk_nil ?_
  simp
  rw [polyD_X]
  refine of3 (by decide) hf PBt.X (by omega) (by omega) (by decide) ?_
  rw [comp_X]
  try simp
  exact h
theorem Ltogether1 {f : Pol} {P : PyData → Prop} (h : P (polyD f)) : (m_L_together [chD [f]]).To P := by
  unfold m_L_together
  rw [pure_to]
  unfold b_L_together
  have e : idxN 1 (-1) = some 0 := rfl
  have ec : NW.cutD [polyD f] none (some (-1)) = [] := rfl
  simp [startL, chD, e, ec]
  refine ⟨_, _, ⟨rfl, rfl⟩, ?_⟩
  refine forM_nil chk_nil ?_
  simpa using h
theorem Ltogether2 {f g : Pol} {n n2 m1 m : Nat} {P : PyData → Prop} (h0 : 0 < n) (hf : PBt n m1 f) (hg : PBt n2 m g) (hm : m ≤ 1000) (hl : (m1 - 1) * m + 1 ≤ 1000) (hn : (m1 - 2) * (n2 + 11) + 2 * n + n2 + 11 ≤ 8999) (h : P (polyD (f.comp g))) : (m_L_together [chD [f, g]]).To P := by
  unfold m_L_together
  rw [pure_to]
  unfold b_L_together
  have e : idxN 2 (-1) = some 1 := rfl
  have ec : NW.cutD [polyD f, polyD g] none (some (-1)) = [polyD f] := rfl
  simp [startL, chD, e, ec]
  refine forM_cons chk_nil ?_
  simp
  refine of3 h0 hf hg hm hl hn ?_
  exact forM_nil chk_nil (by simp; exact h)
theorem Ltogether3 {f g k : Pol} {n n2 n3 n4 m1 m2 m3 m4 : Nat} {P : PyData → Prop} (h0 : 0 < n) (h02 : 0 < n2) (hf : PBt n m1 f) (hg : PBt n2 m2 g) (hk : PBt n3 m3 k) (hgk : PBt n4 m4 (g.comp k)) (hm : m3 ≤ 1000) (hl : (m2 - 1) * m3 + 1 ≤ 1000) (hn : (m2 - 2) * (n3 + 11) + 2 * n2 + n3 + 11 ≤ 8999) (hm' : m4 ≤ 1000) (hl' : (m1 - 1) * m4 + 1 ≤ 1000) (hn' : (m1 - 2) * (n4 + 11) + 2 * n + n4 + 11 ≤ 8999) (h : P (polyD (f.comp (g.comp k)))) : (m_L_together [chD [f, g, k]]).To P := by
  unfold m_L_together
  rw [pure_to]
  unfold b_L_together
  have e : idxN 3 (-1) = some 2 := rfl
  have ec : NW.cutD [polyD f, polyD g, polyD k] none (some (-1)) = [polyD f, polyD g] := rfl
  simp [startL, chD, e, ec]
  refine forM_cons chk_nil ?_
  simp
  refine of3 h02 hg hk hm hl hn ?_
  refine forM_cons chk_nil ?_
  simp
  refine of3 h0 hf hgk hm' hl' hn' ?_
  exact forM_nil chk_nil (by simp; exact h)
end NW

namespace NW
open PySem PySem.Spec PyProof.Rows L2
/-! ### weighted polynomials: whole lists from the lead down -/
theorem evC_snoc {x : Rat} : ∀ {n : Nat} {f : Nat → Rat}, evC (n + 1) f x = evC n f x + f n * x ^ n
  | 0, f => by simp [evC]; grind
  | n + 1, f => by
    rw [evC, evC_snoc (n := n) (f := fun k => f (k + 1)), evC]
    grind
theorem rpow_add {x : Rat} {a : Nat} : ∀ {b : Nat}, x ^ (a + b) = x ^ a * x ^ b
  | 0 => by simp
  | b + 1 => by rw [← Nat.add_assoc, Rat.pow_succ, rpow_add, Rat.pow_succ]; grind
theorem mul0 (t : Int) (us : List Int) : (us.map fun u => t * u).getD 0 0 = t * us.getD 0 0 := getD_map (by simp) us 0
theorem mulZ_zero {t : Int} {ts us : List Int} : (mulZ (t :: ts) us).getD 0 0 = t * us.getD 0 0 := by
  rw [mulZ, addZ_get, mul0]; simp
theorem mulZ_succ {t : Int} {ts us : List Int} {k : Nat} : (mulZ (t :: ts) us).getD (k + 1) 0 = t * us.getD (k + 1) 0 + (mulZ ts us).getD k 0 := by
  rw [mulZ, addZ_get, getD_map (by simp)]; simp
theorem addZ_length : ∀ {ts us : List Int}, (addZ ts us).length = max ts.length us.length
  | [], us => by simp [addZ]
  | t :: ts, [] => by simp [addZ]
  | t :: ts, u :: us => by rw [addZ, List.length_cons, addZ_length]; simp
theorem mulZ_length : ∀ {ts us : List Int}, us ≠ [] → ts ≠ [] → (mulZ ts us).length + 1 = ts.length + us.length
  | [], us, _, h => absurd rfl h
  | [t], us, h, _ => by
    have := List.length_pos_iff.mpr h
    simp [mulZ, addZ_length]; omega
  | t :: u :: ts, us, h, _ => by
    have ih := mulZ_length (ts := u :: ts) h (by simp)
    have := List.length_pos_iff.mpr h
    rw [mulZ, addZ_length]
    simp at ih ⊢
    omega
/-- bounds -/
def WB (C E : Nat) (F : List Int) : Prop := ∀ k, (F.getD k 0).natAbs ≤ C * E ^ k
theorem WB.mul' : ∀ {F G : List Int} {C C' E : Nat}, WB C E F → WB C' E G → ∀ k, ((mulZ F G).getD k 0).natAbs ≤ (k + 1) * (C * C' * E ^ k)
  | [], G, C, C', E, _, _, k => by simp [mulZ]
  | t :: ts, G, C, C', E, hF, hG, 0 => by
    rw [mulZ_zero, Int.natAbs_mul]
    have a := hF 0
    have b := hG 0
    simp at a b ⊢
    exact Nat.mul_le_mul a (by simpa using b)
  | t :: ts, G, C, C', E, hF, hG, k + 1 => by
    rw [mulZ_succ]
    have ih := WB.mul' (F := ts) (G := G) (C := C * E) (C' := C') (E := E) (fun j => by
      have := hF (j + 1)
      rw [List.getD_cons_succ, Nat.pow_succ, Nat.mul_comm (E ^ j), ← Nat.mul_assoc] at this
      exact this) hG k
    have a := hF 0
    have b := hG (k + 1)
    simp at a
    have c := Nat.mul_le_mul a b
    rw [← Int.natAbs_mul] at c
    have e1 : C * (C' * E ^ (k + 1)) = C * C' * E ^ (k + 1) := by rw [Nat.mul_assoc]
    have e2 : C * E * C' * E ^ k = C * C' * E ^ (k + 1) := by rw [Nat.pow_succ]; ac_rfl
    rw [e1] at c
    rw [e2] at ih
    have := Int.natAbs_add_le (t * G.getD (k + 1) 0) ((mulZ ts G).getD k 0)
    have e3 : (k + 1 + 1) * (C * C' * E ^ (k + 1)) = (k + 1) * (C * C' * E ^ (k + 1)) + C * C' * E ^ (k + 1) := by rw [Nat.add_mul (k + 1) 1, Nat.one_mul]
    omega
theorem WB.mul {F G : List Int} {C C' E : Nat} (hF : WB C E F) (hG : WB C' E G) : WB (C * C') (2 * E) (mulZ F G) := fun k => by
  refine Nat.le_trans (WB.mul' hF hG k) ?_
  have h2 : k + 1 ≤ 2 ^ k := Nat.lt_two_pow_self
  rw [Nat.mul_pow]
  calc (k + 1) * (C * C' * E ^ k) ≤ 2 ^ k * (C * C' * E ^ k) := Nat.mul_le_mul_right _ h2
    _ = C * C' * (2 ^ k * E ^ k) := by ac_rfl
theorem WB.mono {F : List Int} {C C' E E' : Nat} (h : WB C E F) (hC : C ≤ C') (hE : E ≤ E') : WB C' E' F := fun k => Nat.le_trans (h k) (Nat.mul_le_mul hC (Nat.pow_le_pow_left hE k))
/-- the weighted form -/
structure W (d D c : Nat) (F : List Int) (p : Pol) : Prop where
  len : F.length = d + 1
  D0 : 0 < D
  c0 : 0 < c
  co : ∀ k, k ≤ d → p.co (d - k) = (F.getD k 0 : Rat) / (((c * D ^ k : Nat) : Int) : Rat)
  out : ∀ j, d < j → p.co j = 0
theorem nat_ne {n : Nat} (h : 0 < n) : (((n : Nat) : Int) : Rat) ≠ 0 := fun e => by have := Rat.intCast_eq_zero_iff.mp e; omega
theorem W.plen {d D c : Nat} {F : List Int} {p : Pol} (h : W d D c F p) : p.ts.length ≤ d + 1 := by
  rcases Nat.lt_or_ge (d + 1) p.ts.length with g | g
  · have := h.out (p.ts.length - 1) (by omega)
    exact absurd this (co_lead fun e => by rw [e] at g; simp at g)
  · exact g
theorem evW {x : Rat} (hx : x ≠ 0) {D : Nat} (hD : 0 < D) : ∀ {F : List Int} {d c : Nat} {f : Nat → Rat}, 0 < c → F.length = d + 1 → (∀ k, k ≤ d → f (d - k) = (F.getD k 0 : Rat) / (((c * D ^ k : Nat) : Int) : Rat)) → evC (d + 1) f x * (((c : Nat) : Int) : Rat) = x ^ d * evZ F (1 / ((((D : Nat) : Int) : Rat) * x))
  | [], d, c, f, _, hl, _ => by simp at hl
  | [t], d, c, f, hc, hl, h => by
    have d0 : d = 0 := by simpa using hl.symm
    subst d0
    have h0 := h 0 (by omega)
    have nc := nat_ne hc
    simp at h0
    simp [evC, evZ]
    rw [h0]
    grind
  | t :: u :: F, d, c, f, hc, hl, h => by
    obtain ⟨e, rfl⟩ : ∃ e, d = e + 1 := ⟨d - 1, by simp at hl; omega⟩
    have nc := nat_ne hc
    have nD := nat_ne hD
    have ih := evW hx hD (F := u :: F) (d := e) (c := c * D) (f := f) (Nat.mul_pos hc hD) (by simpa using hl) fun k hk => by
      have := h (k + 1) (by omega)
      rw [show e + 1 - (k + 1) = e - k by omega, List.getD_cons_succ, Nat.pow_succ, Nat.mul_comm (D ^ k), ← Nat.mul_assoc] at this
      exact this
    have h0 := h 0 (by omega)
    simp at h0
    rw [evC_snoc, evZ, h0]
    rw [Int.natCast_mul, Rat.intCast_mul] at ih
    have e1 : evC (e + 1) f x * (((c : Nat) : Int) : Rat) = x ^ e * evZ (u :: F) (1 / ((((D : Nat) : Int) : Rat) * x)) / (((D : Nat) : Int) : Rat) := by grind
    rw [Rat.add_mul, e1]
    generalize evZ (u :: F) (1 / ((((D : Nat) : Int) : Rat) * x)) = Z
    grind
theorem W.ev {d D c : Nat} {F : List Int} {p : Pol} (h : W d D c F p) {x : Rat} (hx : x ≠ 0) : p.ev x * (((c : Nat) : Int) : Rat) = x ^ d * evZ F (1 / ((((D : Nat) : Int) : Rat) * x)) := by
  rw [ev_co h.plen]
  exact evW hx h.D0 h.c0 h.len h.co
theorem Pol.ext_pos {p q : Pol} (h : ∀ n : Int, 0 < n → p.ev (n : Rat) = q.ev (n : Rat)) : p = q := by
  have hp := p.hb
  have hq := q.hb
  have hp' := p.bne
  have hq' := q.bne
  refine Pol.ext_co fun k => ?_
  have key : ∀ n : Int, 0 < n → evI (p.ts.map fun t => (q.b : Int) * t) n = evI (q.ts.map fun t => (p.b : Int) * t) n := fun n hn => by
    refine Rat.intCast_inj.mp ?_
    rw [← evI_cast, ← evI_cast, evZ_mul, evZ_mul]
    have := h n hn
    unfold Pol.ev at this
    grind
  have := evI_get key k
  rw [getD_map (by simp), getD_map (by simp)] at this
  unfold Pol.co
  refine (Rat.divInt_eq_divInt_iff (by omega) (by omega)).mpr ?_
  rw [Int.mul_comm, this, Int.mul_comm]
/-- the polynomial of a weighted list -/
def ofW (d D c : Nat) (F : List Int) : Pol := NW.mk ((List.range (d + 1)).map fun j => F.getD (d - j) 0 * ((D ^ j : Nat) : Int)) (c * D ^ d)
theorem ofW_W {d D c : Nat} {F : List Int} (hl : F.length = d + 1) (hD : 0 < D) (hc : 0 < c) : W d D c F (ofW d D c F) := by
  have hb : 0 < c * D ^ d := Nat.mul_pos hc (Nat.pow_pos hD)
  have g : ∀ j, (ofW d D c F).co j = if j ≤ d then Rat.divInt (F.getD (d - j) 0 * ((D ^ j : Nat) : Int)) ((c * D ^ d : Nat) : Int) else 0 := fun j => by
    unfold ofW
    rw [co_mk hb, List.getD_eq_getElem?_getD, List.getElem?_map]
    by_cases hj : j ≤ d
    · rw [List.getElem?_range (by omega), if_pos hj]; rfl
    · rw [List.getElem?_eq_none (by simp; omega), if_neg hj]; simp
  refine ⟨hl, hD, hc, fun k hk => ?_, fun j hj => by rw [g, if_neg (by omega)]⟩
  rw [g, if_pos (by omega), show d - (d - k) = k by omega, divInt_div]
  have e : D ^ d = D ^ k * D ^ (d - k) := by rw [← Nat.pow_add]; congr 1; omega
  rw [e, ← Nat.mul_assoc, Int.natCast_mul (c * D ^ k), Rat.intCast_mul, Rat.intCast_mul]
  have n1 := nat_ne (n := D ^ (d - k)) (Nat.pow_pos hD)
  have n2 := nat_ne (n := c * D ^ k) (Nat.mul_pos hc (Nat.pow_pos hD))
  grind
theorem W.of_ev {d D c : Nat} {F : List Int} {p : Pol} (hl : F.length = d + 1) (hD : 0 < D) (hc : 0 < c) (h : ∀ x : Rat, x ≠ 0 → p.ev x * (((c : Nat) : Int) : Rat) = x ^ d * evZ F (1 / ((((D : Nat) : Int) : Rat) * x))) : W d D c F p := by
  have w := ofW_W hl hD hc
  have : p = ofW d D c F := Pol.ext_pos fun n hn => by
    have nx : (n : Rat) ≠ 0 := fun e => by have := Rat.intCast_eq_zero_iff.mp e; omega
    have a := h n nx
    have b := w.ev nx
    have nc := nat_ne hc
    grind
  rw [this]; exact w
theorem W.eq_ofW {d D c : Nat} {F : List Int} {p : Pol} (h : W d D c F p) : p = ofW d D c F := Pol.ext_co fun j => by
  have w := ofW_W h.len h.D0 h.c0
  by_cases hj : j ≤ d
  · have a := h.co (d - j) (by omega)
    have b := w.co (d - j) (by omega)
    rw [show d - (d - j) = j by omega] at a b
    rw [a, b]
  · rw [h.out j (by omega), w.out j (by omega)]
theorem W.mul {d d' D c c' : Nat} {F G : List Int} {p q : Pol} (hp : W d D c F p) (hq : W d' D c' G q) : W (d + d') D (c * c') (mulZ F G) (p * q) := by
  refine W.of_ev ?_ hp.D0 (Nat.mul_pos hp.c0 hq.c0) fun x hx => ?_
  · have := mulZ_length (ts := F) (us := G) (fun e => by have := hq.len; rw [e] at this; simp at this) (fun e => by have := hp.len; rw [e] at this; simp at this)
    have := hp.len
    have := hq.len
    omega
  · have a := hp.ev hx
    have b := hq.ev hx
    rw [ev_mul, evZ_mulZ, Int.natCast_mul, Rat.intCast_mul, rpow_add]
    grind
theorem W.sz {d D c C E n : Nat} {F : List Int} {p : Pol} (h : W d D c F p) (hF : WB C E F) (hE : D ≤ E) (h1 : c * D ^ d < 2 ^ n) (h2 : C * E ^ d < 2 ^ n) : PBt n (d + 1) p := by
  rw [h.eq_ofW]
  refine PBt.mk (Nat.mul_pos h.c0 (Nat.pow_pos h.D0)) (by simp) h1 fun t ht => ?_
  obtain ⟨j, hj, rfl⟩ := List.mem_map.mp ht
  have hj' : j < d + 1 := List.mem_range.mp hj
  rw [Int.natAbs_mul, Int.natAbs_natCast]
  refine Nat.lt_of_le_of_lt (Nat.mul_le_mul (hF _) (Nat.pow_le_pow_left hE j)) ?_
  rw [Nat.mul_assoc, ← Nat.pow_add, show d - j + j = d by omega]
  exact h2
end NW

namespace NW
open PySem PySem.Spec PyProof.Rows L2
/-! ### candidates -/
def pwZ (F : List Int) : Nat → List Int
  | 0 => [1]
  | i + 1 => mulZ (pwZ F i) F
theorem W.one {D : Nat} (hD : 0 < D) : W 0 D 1 [1] Pol.one := ⟨rfl, hD, by omega, fun k hk => by
  have : k = 0 := by omega
  subst this
  simp [Pol.co, Pol.one, divInt_div], fun j hj => by
  obtain ⟨i, rfl⟩ : ∃ i, j = i + 1 := ⟨j - 1, by omega⟩
  simp [Pol.co, Pol.one]⟩
theorem W.pw {d D : Nat} {F : List Int} {p : Pol} (h : W d D 1 F p) : ∀ {i : Nat}, W (i * d) D 1 (pwZ F i) (p.pw i)
  | 0 => by rw [Nat.zero_mul]; exact W.one h.D0
  | i + 1 => by
    rw [Nat.add_mul, Nat.one_mul]
    exact (W.pw h (i := i)).mul h
theorem WB.pw {E : Nat} {F : List Int} (h : WB 1 E F) : ∀ {i : Nat}, WB 1 (2 ^ i * E) (pwZ F i)
  | 0 => fun k => by
    cases k with
    | zero => simp [pwZ]
    | succ k => simp [pwZ]
  | i + 1 => by
    have a := (WB.pw h (i := i)).mul (h.mono (Nat.le_refl 1) (show E ≤ 2 ^ i * E from Nat.le_mul_of_pos_left _ (Nat.two_pow_pos i)))
    rw [show 2 ^ (i + 1) * E = 2 * (2 ^ i * E) by rw [Nat.pow_succ]; ac_rfl]
    exact a
/-- lead 1, all else a multiple of m -/
def Dm (m : Int) (F : List Int) : Prop := F.getD 0 0 = 1 ∧ ∀ k, m ∣ F.getD (k + 1) 0
theorem mul_mod2 {m : Int} {G : List Int} (hG : Dm m G) : ∀ {ts : List Int}, (∀ k, m ∣ ts.getD k 0) → ∀ k, m * m ∣ (mulZ ts G).getD k 0 - ts.getD k 0
  | [], _, k => by simp [mulZ]
  | t :: ts, h, 0 => by
    rw [mulZ_zero, hG.1]; simp
  | t :: ts, h, k + 1 => by
    rw [mulZ_succ, List.getD_cons_succ]
    have ih := mul_mod2 hG (ts := ts) (fun j => by simpa using h (j + 1)) k
    have a : m * m ∣ t * G.getD (k + 1) 0 := Int.mul_dvd_mul (by simpa using h 0) (hG.2 k)
    have := Int.dvd_add a ih
    rwa [← Int.add_sub_assoc] at this
theorem cons_of {F : List Int} (h : F.getD 0 0 = 1) : ∃ ts, F = 1 :: ts := by
  cases F with
  | nil => simp at h
  | cons t ts => simp at h; exact ⟨ts, by rw [h]⟩
theorem Dm.mul {m : Int} {F G : List Int} (hF : Dm m F) (hG : Dm m G) : ∀ k, m * m ∣ (mulZ F G).getD (k + 1) 0 - (G.getD (k + 1) 0 + F.getD (k + 1) 0) := fun k => by
  obtain ⟨ts, rfl⟩ := cons_of hF.1
  have a := mul_mod2 hG (ts := ts) (fun j => by simpa using hF.2 j) k
  rw [mulZ_succ, Int.one_mul, List.getD_cons_succ]
  rwa [show G.getD (k + 1) 0 + (mulZ ts G).getD k 0 - (G.getD (k + 1) 0 + ts.getD k 0) = (mulZ ts G).getD k 0 - ts.getD k 0 by omega]
theorem Dm.prod {m : Int} {F G : List Int} (hF : Dm m F) (hG : Dm m G) : Dm m (mulZ F G) := by
  refine ⟨?_, fun k => ?_⟩
  · obtain ⟨ts, rfl⟩ := cons_of hF.1
    rw [mulZ_zero, hG.1]; rfl
  · have a := Int.dvd_trans (Int.dvd_mul_right m m) (hF.mul hG k)
    have b := Int.dvd_add (hG.2 k) (hF.2 k)
    have := Int.dvd_add a b
    rwa [show (mulZ F G).getD (k + 1) 0 - (G.getD (k + 1) 0 + F.getD (k + 1) 0) + (G.getD (k + 1) 0 + F.getD (k + 1) 0) = (mulZ F G).getD (k + 1) 0 by omega] at this
theorem Dm.one {m : Int} : Dm m [1] := ⟨rfl, fun k => by simp⟩
theorem Dm.pw {m : Int} {F : List Int} (h : Dm m F) : ∀ {i : Nat}, Dm m (pwZ F i)
  | 0 => Dm.one
  | i + 1 => (Dm.pw h (i := i)).prod h
theorem pw_mod2 {m : Int} {F : List Int} (h : Dm m F) {k : Nat} : ∀ {i : Nat}, m * m ∣ (pwZ F i).getD (k + 1) 0 - (i : Int) * F.getD (k + 1) 0
  | 0 => by simp [pwZ]
  | i + 1 => by
    have ih := pw_mod2 h (k := k) (i := i)
    have a := (Dm.pw h (i := i)).mul h k
    have := Int.dvd_add a ih
    rw [pwZ]
    rwa [show (mulZ (pwZ F i) F).getD (k + 1) 0 - (F.getD (k + 1) 0 + (pwZ F i).getD (k + 1) 0) + ((pwZ F i).getD (k + 1) 0 - (i : Int) * F.getD (k + 1) 0) = (mulZ (pwZ F i) F).getD (k + 1) 0 - ((i + 1 : Nat) : Int) * F.getD (k + 1) 0 by rw [Int.natCast_add, Int.add_mul]; omega] at this
/-- one coefficient otherwise -/
theorem smI_congr {f g : Nat → Int} : ∀ {n : Nat}, (∀ j, j < n → f j = g j) → smI n f = smI n g
  | 0, _ => rfl
  | n + 1, h => by rw [smI, smI, smI_congr fun j hj => h j (by omega), h n (by omega)]
def Ag (k : Nat) (δ : Int) (A B : List Int) : Prop := (∀ j, j < k → A.getD j 0 = B.getD j 0) ∧ A.getD k 0 = B.getD k 0 + δ
theorem Ag.mul {k : Nat} {α β : Int} {A A' G G' : List Int} (hA : Ag (k + 1) α A A') (hG : Ag (k + 1) β G G') : Ag (k + 1) (α * G'.getD 0 0 + A'.getD 0 0 * β) (mulZ A G) (mulZ A' G') := by
  refine ⟨fun j hj => ?_, ?_⟩
  · rw [mulZ_get, mulZ_get]
    exact smI_congr fun i hi => by rw [hA.1 i (by omega), hG.1 (j - i) (by omega)]
  · rw [mulZ_get, mulZ_get, smI_succ, smI_succ (n := k + 1), smI, smI]
    rw [smI_congr (n := k) (g := fun i => A'.getD (i + 1) 0 * G'.getD (k + 1 - (i + 1)) 0) fun i hi => by rw [hA.1 (i + 1) (by omega), hG.1 (k + 1 - (i + 1)) (by omega)]]
    rw [hA.1 0 (by omega), Nat.sub_self, hG.1 0 (by omega), hA.2, show k + 1 - 0 = k + 1 by omega, hG.2]
    rw [Int.mul_add, Int.add_mul]
    omega
theorem Ag.pw {k : Nat} {δ : Int} {F G : List Int} (h : Ag (k + 1) δ F G) (h1 : G.getD 0 0 = 1) : ∀ {i : Nat}, Ag (k + 1) ((i : Int) * δ) (pwZ F i) (pwZ G i) ∧ (pwZ G i).getD 0 0 = 1
  | 0 => ⟨⟨fun j hj => rfl, by simp [pwZ]⟩, rfl⟩
  | i + 1 => by
    obtain ⟨a, b⟩ := Ag.pw h h1 (i := i)
    have := a.mul h
    rw [h1, b] at this
    refine ⟨?_, ?_⟩
    · rw [pwZ, pwZ, show ((i + 1 : Nat) : Int) * δ = (i : Int) * δ * 1 + 1 * δ by rw [Int.natCast_add, Int.add_mul]; omega]
      exact this
    · rw [pwZ]
      obtain ⟨ts, e⟩ := cons_of b
      rw [e, mulZ_zero, h1]; rfl
end NW

namespace NW
open PySem PySem.Spec PyProof.Rows L2
/-! ### one power, powers within wider bounds -/
theorem polyx {S : PyData} {qs : List Rat} {n L : Nat} {P : PyData → Prop} (hS : SeqD S (qs.map fracD)) (hq : ∀ q, q ∈ qs → FB n q) (hL : lcms 1 qs < 2 ^ L) (hL0 : 0 < L) (hn : L ≤ 8000) (h0 : 0 < n) (hn' : n ≤ 8000) (hl : qs.length ≤ 16777216) (h : P (polyD (ofC qs))) : (m_poly [S]).To P := by
  unfold m_poly
  rw [pure_to]
  unfold b_poly
  simp [startL, hS.src]
  try refine ⟨_, _, ⟨rfl, rfl⟩, ?_⟩
  refine for_to (I := fun zs l s => s = ⟨none, []⟩ ∧ ∃ (as bs : List Rat) (v w : Option U) (c : Nat), qs = as ++ bs ∧ zs = bs.map fracD ∧ l = [some (.d S), some (.d (.int c)), v, w] ∧ lcms c bs = lcms 1 qs ∧ 0 < c ∧ c < 2 ^ L) (fun _ _ _ _ => chk_nil) ?_ ?_ _ _ _ ⟨rfl, [], qs, none, none, 1, rfl, rfl, rfl, rfl, by decide, Nat.lt_of_le_of_lt (Nat.le_of_dvd (lcms_pos (by decide)) lcms_dvd.1) hL⟩
  · rintro x zs l s ⟨rfl, as, bs, v, w, c, e1, e2, rfl, e3, e4, e5⟩
    cases bs with
    | nil => cases e2
    | cons q bs =>
      cases e2
      have fq := hq q (by rw [e1]; simp)
      have m1 : mulC c q.den = true := mulC_of (a := L) (b := n) (by simpa using e5) (by simpa using fq.2) hL0 h0 (by omega)
      have hg : 0 < Nat.gcd c q.den := Nat.gcd_pos_of_pos_left _ e4
      have hg2 : Nat.gcd c q.den < 2 ^ 8999 := Nat.lt_of_le_of_lt (Nat.le_of_dvd e4 (Nat.gcd_dvd_left _ _)) (Nat.lt_of_lt_of_le e5 (Nat.pow_le_pow_right (by omega) (by omega)))
      simp [fracD, m1]
      refine common_part_to ?_
      simp [divC_nat hg hg2, lcm_eq c q.den e4]
      refine ⟨as ++ [q], bs, by rw [e1]; simp, rfl, _, _, _, ⟨rfl, rfl, rfl⟩, e3, Nat.lcm_pos e4 q.den_pos, ?_⟩
      have e3' : lcms (Nat.lcm c q.den) bs = lcms 1 qs := e3
      have := (lcms_dvd (qs := bs) (b := Nat.lcm c q.den)).1
      rw [e3'] at this
      exact Nat.lt_of_le_of_lt (Nat.le_of_dvd (lcms_pos (by decide)) this) hL
  · rintro l s ⟨rfl, as, bs, v, w, c, e1, e2, rfl, e3, e4, e5⟩
    have : bs = [] := by cases bs with | nil => rfl | cons c bs => cases e2
    subst this
    have e3' : c = lcms 1 qs := e3
    subst e3'
    rw [List.append_nil] at e1
    subst e1
    have hB : lcms 1 qs < 2 ^ 8999 := Nat.lt_of_lt_of_le e5 (Nat.pow_le_pow_right (by omega) (by omega))
    simp [hS.src]
    first | refine ⟨_, _, ⟨rfl, rfl⟩, by simpa using hl, ?_⟩ | refine ⟨by simpa using hl, ?_⟩
    refine lc_mapA (g := fun q => .int (q.num * ((lcms 1 qs / q.den : Nat) : Int))) chk_nil ?_ ?_
    · intro q hq'
      have fq := hq q hq'
      have hd : 0 < q.den := q.den_pos
      have hq1 : q.den < 2 ^ 8999 := Nat.lt_of_lt_of_le fq.2 (Nat.pow_le_pow_right (by omega) (by omega))
      have hl2 : lcms 1 qs / q.den < 2 ^ 8999 := Nat.lt_of_le_of_lt (Nat.div_le_self _ _) hB
      have e : ((lcms 1 qs : Nat) : Int).fdiv (q.den : Int) = ((lcms 1 qs / q.den : Nat) : Int) := by
        rw [Int.fdiv_eq_ediv_of_nonneg _ (by omega), Int.natCast_ediv]
      have m1 : mulC q.num ((lcms 1 qs / q.den : Nat) : Int) = true := mulC_of (a := n) (b := 8999) fq.1 (by rw [Int.natAbs_natCast]; exact hl2) h0 (by omega) (by omega)
      rw [Int.natCast_ediv] at m1 e
      simp [wipeL, fracD, divC_nat hd hq1, e, m1]
    · unfold ofC at h
      refine over_to (.inl ?_) (lcms_pos (by decide)) hB ?_ h
      · rw [List.map_map]; rfl
      · simpa using hl
theorem powerx {p : Pol} {n m k : Nat} {P : PyData → Prop} (hp : PBt n m p) (hk : k * m + 1 + m ≤ 1000) (hn : (k - 1) * (n + 10) + 1 + n ≤ 8999) (hk9 : k ≤ 100) (h : P (polyD (p.pw k))) : (m_power [polyD p, .int k]).To P := by
  unfold m_power
  rw [pure_to]
  unfold b_power
  simp [startL]
  refine ⟨decide_eq_true (by omega), ?_⟩
  rw [range_map]
  obtain ⟨I, hI⟩ : ∃ I : Nat → NW.Loc → Sto → Prop, ∀ j l s, I j l s ↔ j ≤ k ∧ ∃ (v : Option U), l = [some (.d (polyD p)), some (.d (.int k)), some (.d (polyD (p.pw j))), v] ∧ s = ⟨none, []⟩ := ⟨_, fun _ _ _ => Iff.rfl⟩
  refine for_ix I (fun _ _ _ _ => chk_nil) ((hI _ _ _).mpr ⟨by omega, none, rfl, rfl⟩) ?_ ?_
  · rintro j x l s hx h
    obtain ⟨hj, v, rfl, rfl⟩ := (hI _ _ _).mp h
    have hx' := (List.getElem?_eq_some_iff.mp hx).1
    simp at hx'
    have e1 : j * m ≤ k * m := Nat.mul_le_mul_right _ hj
    have e2 : j * (n + 10) ≤ (k - 1) * (n + 10) := Nat.mul_le_mul_right _ (by omega)
    simp
    refine timesx (hp.pw (by omega)) hp (by omega) (by omega) (by omega) ?_
    exact (hI _ _ _).mpr ⟨by omega, _, rfl, rfl⟩
  · intro l s h'
    obtain ⟨hj, v, rfl, rfl⟩ := (hI _ _ _).mp h'
    simp at hj ⊢
    exact h
def mono (c : Rat) (e : Nat) : Pol := NW.ofC (List.replicate e 0 ++ [c])
theorem co_mono {c : Rat} {e j : Nat} : (mono c e).co j = if j = e then c else 0 := by
  unfold mono
  rw [co_ofC, List.getD_eq_getElem?_getD]
  rcases Nat.lt_trichotomy j e with h | h | h
  · rw [List.getElem?_append_left (by simpa using h), if_neg (by omega), List.getElem?_replicate, if_pos h]; rfl
  · rw [List.getElem?_append_right (by simp; omega), if_pos h]
    simp [h]
  · rw [List.getElem?_eq_none (by simp; omega), if_neg (by omega)]; rfl
theorem lcms_mono {c : Rat} : ∀ {e b : Nat}, 0 < b → lcms b (List.replicate e (0 : Rat) ++ [c]) = Nat.lcm b c.den
  | 0, b, _ => rfl
  | e + 1, b, hb => by
    rw [List.replicate_succ, List.cons_append, lcms]
    have : (0 : Rat).den = 1 := rfl
    rw [this, Nat.lcm_one_right, lcms_mono hb]
theorem mono_sz {c : Rat} {e n : Nat} (h : FB n c) : PBt n (e + 1) (mono c e) := by
  refine PBt.rep (D := c.den) (N := fun j => if j = e then c.num else 0) c.den_pos (fun j => ?_) h.2 (fun j => ?_) fun j hj => by rw [co_mono, if_neg (by omega)]
  · rw [co_mono]
    split
    · exact (Rat.num_divInt_den c).symm
    · simp
  · show (if j = e then c.num else 0).natAbs < _
    split
    · exact h.1
    · simp [Nat.two_pow_pos]
theorem flat1 {x : PyData} : ∀ n : Nat, (List.replicate n [x]).flatten = List.replicate n x
  | 0 => rfl
  | n + 1 => by rw [List.replicate_succ, List.flatten_cons, flat1, List.replicate_succ]; rfl
theorem fMulA_k {x : PyData} {k : Int} {st : Sto} (h0 : 0 ≤ k) (h1 : k ≤ 1000) {r : Nat} (hr : k.toNat = r) : fMulA (.d (.list [x])) (.d (.int k)) st = .ok (.d (.list (List.replicate r x))) st := by
  have e : fMulA (.d (.list [x])) (.d (.int k)) st = if (decide (-(2 ^ 63) ≤ k ∧ k < 2 ^ 63) && lenOk ([x].length * k.toNat)) = true then Res.ok (U.d (.list (List.replicate k.toNat [x]).flatten)) st else .no := rfl
  have c : (decide (-(2 ^ 63) ≤ k ∧ k < 2 ^ 63) && lenOk ([x].length * k.toNat)) = true := by
    rw [Bool.and_eq_true, decide_eq_true_eq, lenOk_small, List.length_singleton, Nat.one_mul]
    exact ⟨⟨by omega, by omega⟩, by omega⟩
  rw [e, if_pos c, flat1, hr]
theorem one_power_to {c : Rat} {e n : Nat} {P : PyData → Prop} (h : FB n c) (h0 : 0 < n) (hn : n ≤ 8000) (he : e ≤ 1000) (hP : P (polyD (mono c e))) : (m_one_power [fracD c, .int e]).To P := by
  unfold m_one_power
  rw [pure_to]
  unfold b_one_power
  simp [startL]
  rw [fMulA_k (r := e) (by omega) (by omega) (by omega)]
  simp
  rw [fracD_0]
  have e1 : List.replicate e (fracD 0) ++ [fracD c] = (List.replicate e (0 : Rat) ++ [c]).map fracD := by simp
  rw [e1]
  refine ⟨by omega, ?_⟩
  refine polyx (n := n) (L := n) (.inl rfl) (fun q hq => ?_) ?_ h0 hn h0 hn (by simp; omega) hP
  · rcases List.mem_append.mp hq with hq | hq
    · rw [(List.mem_replicate.mp hq).2]; exact FB.zero h0
    · have : q = c := by simpa using hq
      rw [this]; exact h
  · rw [lcms_mono (by decide), Nat.lcm_one_left]
    exact h.2
end NW

namespace NW
open PySem PySem.Spec PyProof.Rows L2
/-! ### the candidate, step by step -/
/-- the whole numbers of the normed one -/
def AZ (f : Pol) (m n k : Nat) : Int := f.ts.getD (n - k) 0 * (f.ts.getD n 0).sign * ((m * m) ^ k * (f.ts.getD n 0).natAbs ^ (k - 1) : Nat)
def DD (f : Pol) (m n : Nat) : Nat := m * m * (f.ts.getD n 0).natAbs
theorem AZ_co {f : Pol} {m n k : Nat} (ht : f.ts.getD n 0 ≠ 0) (hm : 0 < m) (hk : 0 < k) : f.co (n - k) / f.co n = (AZ f m n k : Rat) / (((DD f m n ^ k : Nat) : Int) : Rat) := by
  unfold AZ DD Pol.co
  obtain ⟨j, rfl⟩ : ∃ j, k = j + 1 := ⟨k - 1, by omega⟩
  generalize f.ts.getD n 0 = t at *
  generalize f.ts.getD (n - (j + 1)) 0 = A
  have hb := f.bne
  have t0 : 0 < t.natAbs := by omega
  have nt := nat_ne t0
  have e : (t : Rat) = ((t.sign : Int) : Rat) * (((t.natAbs : Nat) : Int) : Rat) := by
    rw [← Rat.intCast_mul, Int.sign_mul_natAbs]
  have hs2 : ((t.sign : Int) : Rat) * ((t.sign : Int) : Rat) = 1 := by
    rw [← Rat.intCast_mul]
    rcases Int.lt_trichotomy t 0 with h | h | h
    · rw [Int.sign_eq_neg_one_of_neg h]; rfl
    · exact absurd h ht
    · rw [Int.sign_eq_one_of_pos h]; rfl
  have n1 := nat_ne (n := (m * m) ^ (j + 1)) (Nat.pow_pos (Nat.mul_pos hm hm))
  have n2 := nat_ne (n := t.natAbs ^ j) (Nat.pow_pos t0)
  rw [divInt_div, divInt_div, Nat.mul_pow (m * m) t.natAbs (j + 1), Nat.pow_succ (n := t.natAbs) (m := j), show j + 1 - 1 = j by omega]
  rw [Rat.intCast_mul, Rat.intCast_mul, Int.natCast_mul, Int.natCast_mul ((m * m) ^ (j + 1)), Int.natCast_mul (t.natAbs ^ j), Rat.intCast_mul, Rat.intCast_mul, Rat.intCast_mul, e]
  generalize ((t.sign : Int) : Rat) = s at *
  generalize (((t.natAbs : Nat) : Int) : Rat) = T at *
  generalize (((t.natAbs ^ j : Nat) : Int) : Rat) = U at *
  generalize ((((m * m) ^ (j + 1) : Nat) : Int) : Rat) = M at *
  have hs : s ≠ 0 := by grind
  grind
theorem AZ_dvd {f : Pol} {m n k : Nat} : (m : Int) * m ∣ AZ f m n (k + 1) := by
  unfold AZ
  refine Int.dvd_trans ?_ (Int.dvd_mul_left _ _)
  rw [Nat.pow_succ, Int.natCast_mul, Int.natCast_mul, Int.natCast_mul]
  exact ⟨((m * m) ^ k : Nat) * (((f.ts.getD n 0).natAbs ^ (k + 1 - 1) : Nat) : Int), by ac_rfl⟩
theorem AZ_le {f : Pol} {m n k B : Nat} (h : ∀ j, (f.ts.getD j 0).natAbs ≤ B) : (AZ f m n (k + 1)).natAbs ≤ (B * (m * m)) ^ (k + 1) := by
  unfold AZ
  rw [Int.natAbs_mul, Int.natAbs_mul, Int.natAbs_natCast]
  have hs : (f.ts.getD n 0).sign.natAbs ≤ 1 := by
    rw [Int.natAbs_sign]; split <;> omega
  have h1 := h (n - (k + 1))
  have h2 : (f.ts.getD n 0).natAbs ^ (k + 1 - 1) ≤ B ^ k := Nat.pow_le_pow_left (h n) _
  have a : (f.ts.getD (n - (k + 1)) 0).natAbs * (f.ts.getD n 0).sign.natAbs ≤ B * 1 := Nat.mul_le_mul h1 hs
  refine Nat.le_trans (Nat.mul_le_mul a (Nat.mul_le_mul_left ((m * m) ^ (k + 1)) h2)) ?_
  rw [Nat.mul_pow B (m * m) (k + 1), Nat.pow_succ (n := B) (m := k)]
  refine Nat.le_of_eq ?_
  ac_rfl
/-- how far the candidate is made -/
def CS (f : Pol) (m s n k : Nat) (B : Nat) (h : Pol) : Prop := ∃ H : List Int, W s (DD f m n) 1 H h ∧ Dm m H ∧ WB 1 (2 ^ (7 * k) * (B * (m * m))) H ∧ (∀ j, k < j → H.getD j 0 = 0) ∧ ∀ j, j < k → (pwZ H m).getD (j + 1) 0 = AZ f m n (j + 1)
theorem set_get {H : List Int} {i j : Nat} {a : Int} (hi : i < H.length) : (H.set i a).getD j 0 = if j = i then a else H.getD j 0 := by
  rw [List.getD_eq_getElem?_getD, List.getElem?_set]
  by_cases h : i = j
  · rw [if_pos h, if_pos h.symm, if_pos (by omega)]; rfl
  · rw [if_neg h, if_neg fun e => h e.symm, List.getD_eq_getElem?_getD]
theorem CS.init {f : Pol} {m s n B : Nat} (hs : 0 < s) (hD : 0 < DD f m n) : CS f m s n 0 B (mono 1 s) := by
  refine ⟨1 :: List.replicate s 0, ⟨by simp, hD, by omega, fun k hk => ?_, fun j hj => by rw [co_mono, if_neg (by omega)]⟩, ⟨rfl, fun k => ?_⟩, fun k => ?_, fun j hj => ?_, fun j hj => by omega⟩
  · rw [co_mono]
    cases k with
    | zero => simp; grind
    | succ k =>
      rw [if_neg (by omega), List.getD_cons_succ, List.getD_eq_getElem?_getD, List.getElem?_replicate]
      split <;> simp <;> grind
  · rw [List.getD_cons_succ, List.getD_eq_getElem?_getD, List.getElem?_replicate]
    split <;> simp
  · cases k with
    | zero => simp
    | succ k =>
      rw [List.getD_cons_succ, List.getD_eq_getElem?_getD, List.getElem?_replicate]
      split <;> simp
  · obtain ⟨i, rfl⟩ : ∃ i, j = i + 1 := ⟨j - 1, by omega⟩
    rw [List.getD_cons_succ, List.getD_eq_getElem?_getD, List.getElem?_replicate]
    split <;> simp
theorem CS.step {f : Pol} {m s n k B : Nat} {h : Pol} (hc : CS f m s n k B h) (hn : n = m * s) (hm : 0 < m) (hm6 : m ≤ 6) (hk : k + 1 < s) (ht : f.ts.getD n 0 ≠ 0) (hB : ∀ j, (f.ts.getD j 0).natAbs ≤ B) : CS f m s n (k + 1) B (h + mono ((f.co (n - (k + 1)) / f.co n - (h.pw m).co (n - (k + 1))) / ((m : Int) : Rat)) (s - (k + 1))) ∧ ∃ δ : Int, (f.co (n - (k + 1)) / f.co n - (h.pw m).co (n - (k + 1))) / ((m : Int) : Rat) = Rat.divInt δ ((DD f m n ^ (k + 1) : Nat) : Int) ∧ δ.natAbs ≤ (2 ^ (7 * (k + 1)) * (B * (m * m))) ^ (k + 1) := by
  obtain ⟨H, w, dm, wb, z, eqs⟩ := hc
  have hle : k + 1 ≤ m * s := by
    have : 1 * s ≤ m * s := Nat.mul_le_mul_right _ hm
    omega
  have wp := w.pw (i := m)
  have cp := wp.co (k + 1) hle
  rw [← hn, Nat.one_mul] at cp
  have hz : H.getD (k + 1) 0 = 0 := z (k + 1) (by omega)
  have d1 := pw_mod2 dm (k := k) (i := m)
  rw [hz, Int.mul_zero, Int.sub_zero] at d1
  have d2 : (m : Int) * m ∣ AZ f m n (k + 1) - (pwZ H m).getD (k + 1) 0 := Int.dvd_sub AZ_dvd d1
  obtain ⟨v, hv⟩ := d2
  have mz : ((m : Int) : Rat) ≠ 0 := nat_ne hm
  have nD := nat_ne (n := DD f m n ^ (k + 1)) (Nat.pow_pos w.D0)
  -- the new number
  have hval : (f.co (n - (k + 1)) / f.co n - (h.pw m).co (n - (k + 1))) / ((m : Int) : Rat) = Rat.divInt ((m : Int) * v) ((DD f m n ^ (k + 1) : Nat) : Int) := by
    rw [AZ_co ht hm (by omega), cp, divInt_div]
    have hv' : (AZ f m n (k + 1) : Rat) - (((pwZ H m).getD (k + 1) 0 : Int) : Rat) = ((m : Int) : Rat) * ((m : Int) : Rat) * (v : Rat) := by
      rw [← Rat.intCast_sub, hv, Rat.intCast_mul, Rat.intCast_mul]
    rw [Rat.intCast_mul]
    grind
  have hδ : ((m : Int) * v).natAbs ≤ (2 ^ (7 * (k + 1)) * (B * (m * m))) ^ (k + 1) := by
    have a1 := AZ_le (f := f) (m := m) (n := n) (k := k) hB
    have a2 := (wb.pw (i := m)) (k + 1)
    rw [Nat.one_mul] at a2
    have a3 : ((m : Int) * v).natAbs ≤ (AZ f m n (k + 1)).natAbs + ((pwZ H m).getD (k + 1) 0).natAbs := by
      have b1 : ((m : Int) * v).natAbs ≤ ((m : Int) * m * v).natAbs := by
        rw [Int.natAbs_mul, Int.natAbs_mul, Int.natAbs_mul, Int.natAbs_natCast, Nat.mul_assoc]
        exact Nat.le_mul_of_pos_left _ hm
      rw [← hv] at b1
      omega
    have e7 : 2 ^ (7 * (k + 1)) = 2 * (2 ^ 6 * 2 ^ (7 * k)) := by
      rw [← Nat.pow_add, ← Nat.pow_succ']; congr 1; omega
    have p6 : 2 ^ m ≤ 2 ^ 6 := pw_le hm6
    have E1 : B * (m * m) ≤ 2 ^ 6 * 2 ^ (7 * k) * (B * (m * m)) := Nat.le_mul_of_pos_left _ (Nat.mul_pos (Nat.two_pow_pos _) (Nat.two_pow_pos _))
    have E2 : 2 ^ m * (2 ^ (7 * k) * (B * (m * m))) ≤ 2 ^ 6 * 2 ^ (7 * k) * (B * (m * m)) := by
      rw [← Nat.mul_assoc]; exact Nat.mul_le_mul_right _ (Nat.mul_le_mul_right _ p6)
    have c1 := Nat.pow_le_pow_left E1 (k + 1)
    have c2 := Nat.pow_le_pow_left E2 (k + 1)
    have two : 2 * (2 ^ 6 * 2 ^ (7 * k) * (B * (m * m))) ^ (k + 1) ≤ (2 ^ (7 * (k + 1)) * (B * (m * m))) ^ (k + 1) := by
      rw [e7, Nat.mul_assoc 2, Nat.mul_pow 2]
      refine Nat.mul_le_mul_right _ ?_
      have : 2 ^ 1 ≤ 2 ^ (k + 1) := pw_le (by omega)
      omega
    omega
  refine ⟨⟨H.set (k + 1) ((m : Int) * v), ?_, ?_, ?_, ?_, ?_⟩, _, hval, hδ⟩
  · refine ⟨by simp [w.len], w.D0, w.c0, fun j hj => ?_, fun j hj => ?_⟩
    · rw [co_add, co_mono, w.co j hj, set_get (by rw [w.len]; omega), hval]
      by_cases e : j = k + 1
      · subst e
        rw [if_pos rfl, if_pos rfl, hz, divInt_div, Nat.one_mul]
        grind
      · rw [if_neg (by omega), if_neg e]; grind
    · rw [co_add, co_mono, w.out j hj, if_neg (by omega)]; grind
  · refine ⟨by rw [set_get (by rw [w.len]; omega), if_neg (by omega)]; exact dm.1, fun j => ?_⟩
    rw [set_get (by rw [w.len]; omega)]
    split
    · exact Int.dvd_mul_right _ _
    · exact dm.2 j
  · intro j
    rw [set_get (by rw [w.len]; omega)]
    split
    · rename_i e; subst e; rw [Nat.one_mul]; exact hδ
    · exact wb.mono (Nat.le_refl 1) (Nat.mul_le_mul_right _ (pw_le (by omega))) j
  · intro j hj
    rw [set_get (by rw [w.len]; omega), if_neg (by omega)]
    exact z j (by omega)
  · intro j hj
    have ag : Ag (k + 1) ((m : Int) * v) (H.set (k + 1) ((m : Int) * v)) H := ⟨fun i hi => by rw [set_get (by rw [w.len]; omega), if_neg (by omega)], by rw [set_get (by rw [w.len]; omega), if_pos rfl, hz]; omega⟩
    obtain ⟨⟨p1, p2⟩, _⟩ := ag.pw dm.1 (i := m)
    by_cases e : j = k
    · subst e
      rw [p2, ← Int.mul_assoc, ← hv]; omega
    · rw [p1 (j + 1) (by omega)]
      exact eqs j (by omega)
end NW

namespace NW
open PySem PySem.Spec PyProof.Rows L2
theorem CS.bits {m k N : Nat} (hk : k ≤ 11) (hm : m ≤ 12) : 2 ^ (7 * k) * (2 ^ 133 * (m * m)) ≤ 2 ^ 218 := by
  have a : 2 ^ (7 * k) ≤ 2 ^ 77 := pw_le (by omega)
  have b : m * m ≤ 12 * 12 := Nat.mul_le_mul hm hm
  have c : 2 ^ 133 * (m * m) ≤ 2 ^ 133 * 2 ^ 8 := Nat.mul_le_mul_left _ (Nat.le_trans b (by decide))
  refine Nat.le_trans (Nat.mul_le_mul a c) ?_
  decide +kernel
theorem CS.sz {f : Pol} {m s n k : Nat} {h : Pol} (hc : CS f m s n k (2 ^ 133) h) (hk : k ≤ 11) (hm : m ≤ 12) (hB : ∀ j, (f.ts.getD j 0).natAbs ≤ 2 ^ 133) : PBt (218 * s + 1) (s + 1) h := by
  obtain ⟨H, w, dm, wb, z, eqs⟩ := hc
  have hE := CS.bits (N := 0) hk hm
  have hD : DD f m n ≤ 2 ^ (7 * k) * (2 ^ 133 * (m * m)) := by
    unfold DD
    refine Nat.le_trans ?_ (Nat.le_mul_of_pos_left _ (Nat.two_pow_pos _))
    rw [Nat.mul_comm]
    exact Nat.mul_le_mul_right _ (hB n)
  have hp : (2 ^ (7 * k) * (2 ^ 133 * (m * m))) ^ s < 2 ^ (218 * s + 1) := by
    refine Nat.lt_of_le_of_lt (Nat.pow_le_pow_left hE s) ?_
    rw [← Nat.pow_mul]
    exact Nat.pow_lt_pow_right (by omega) (by omega)
  exact w.sz wb hD (by rw [Nat.one_mul]; exact Nat.lt_of_le_of_lt (Nat.pow_le_pow_left hD s) hp) (by rw [Nat.one_mul]; exact hp)
theorem CS.cFB {f : Pol} {m n k : Nat} {δ : Int} (ht : f.ts.getD n 0 ≠ 0) (h0 : 0 < m) (hk : k + 1 ≤ 11) (hm : m ≤ 12) (hB : ∀ j, (f.ts.getD j 0).natAbs ≤ 2 ^ 133) (hδ : δ.natAbs ≤ (2 ^ (7 * (k + 1)) * (2 ^ 133 * (m * m))) ^ (k + 1)) : FB 2399 (Rat.divInt δ ((DD f m n ^ (k + 1) : Nat) : Int)) := by
  have hE := CS.bits (N := 0) hk hm
  have hD : DD f m n ≤ 2 ^ (7 * (k + 1)) * (2 ^ 133 * (m * m)) := by
    unfold DD
    refine Nat.le_trans ?_ (Nat.le_mul_of_pos_left _ (Nat.two_pow_pos _))
    rw [Nat.mul_comm]
    exact Nat.mul_le_mul_right _ (hB n)
  have hp : (2 ^ (7 * (k + 1)) * (2 ^ 133 * (m * m))) ^ (k + 1) < 2 ^ 2399 := by
    refine Nat.lt_of_le_of_lt (Nat.pow_le_pow_left hE (k + 1)) ?_
    rw [← Nat.pow_mul]
    exact Nat.pow_lt_pow_right (by omega) (by omega)
  have D0 : 0 < DD f m n := Nat.mul_pos (Nat.mul_pos h0 h0) (by omega)
  have D1 : 0 < DD f m n ^ (k + 1) := Nat.pow_pos D0
  refine FB.of_divInt (by omega) (Nat.lt_of_le_of_lt hδ hp) ?_
  rw [Int.natAbs_natCast]
  exact Nat.lt_of_le_of_lt (Nat.pow_le_pow_left hD (k + 1)) hp
/-- the candidate has the same greatest fractions -/
theorem CS.same {f : Pol} {m s n k B : Nat} {h : Pol} (hc : CS f m s n k B h) (hn : n = m * s) (hm : 0 < m) (ht : f.ts.getD n 0 ≠ 0) : (∀ j, j ≤ k → j ≤ n → (h.pw m).co (n - j) * f.co n = f.co (n - j)) ∧ h.co s = 1 ∧ (k < s → h.co 0 = 0) ∧ h.ts.length = s + 1 := by
  obtain ⟨H, w, dm, wb, z, eqs⟩ := hc
  have lead : h.co s = 1 := by
    have := w.co 0 (by omega)
    rw [dm.1] at this
    simp at this
    rw [this]; grind
  have fz : f.co n ≠ 0 := by
    unfold Pol.co
    rw [divInt_div]
    have := f.bne
    have : ((f.ts.getD n 0 : Int) : Rat) ≠ 0 := fun e => ht (Rat.intCast_eq_zero_iff.mp e)
    grind
  refine ⟨fun j hj hjn => ?_, lead, fun hks => ?_, len_of (fun j hj => w.out j (by omega)) fun _ => by show h.co s ≠ 0; rw [lead]; decide⟩
  · have cp := (w.pw (i := m)).co j (by omega)
    rw [← hn, Nat.one_mul] at cp
    rw [cp]
    cases j with
    | zero => rw [(Dm.pw dm (i := m)).1]; simp; grind
    | succ j =>
      rw [eqs j (by omega), ← AZ_co ht hm (by omega)]
      grind
  · have := w.co s (by omega)
    rw [Nat.sub_self, z s hks] at this
    rw [this]; simp <;> grind
theorem candidate_to {f : Pol} {m s n : Nat} (hf : PBt 133 (n + 1) f) (hl : f.ts.length = n + 1) (hn : n = m * s) (hm : 0 < m) (hs : 0 < s) (h12 : n ≤ 12) : (m_candidate [polyD f, .int s]).To fun d => ∃ h, d = polyD h ∧ CS f m s n (s - 1) (2 ^ 133) h := by
  have ht : f.ts.getD n 0 ≠ 0 := by
    have := tr_get f.ht (fun e => by rw [e] at hl; simp at hl)
    rwa [hl] at this
  have hB : ∀ j, (f.ts.getD j 0).natAbs ≤ 2 ^ 133 := fun j => Nat.le_of_lt (hf.get j)
  have hsn : s ≤ n := by rw [hn]; exact Nat.le_mul_of_pos_left _ hm
  have hmn : m ≤ n := by rw [hn]; exact Nat.le_mul_of_pos_right _ hs
  have sz := fun k (hk : k ≤ 11) (h : Pol) (hc : CS f m s n k (2 ^ 133) h) => hc.sz hk (by omega) hB
  have st := fun k (hk : k + 1 < s) (h : Pol) (hc : CS f m s n k (2 ^ 133) h) => hc.step hn hm (by
    have : m * 2 ≤ m * s := Nat.mul_le_mul_left _ (by omega)
    omega) hk ht hB
  have cf := fun k (hk : k + 1 ≤ 11) (δ : Int) hd => CS.cFB (f := f) (m := m) (n := n) (k := k) (δ := δ) ht hm hk (by omega) hB hd
  have ini : CS f m s n 0 (2 ^ 133) (mono 1 s) := CS.init hs (Nat.mul_pos (Nat.mul_pos hm hm) (by omega))
  clear hB
  generalize (2 : Nat) ^ 133 = B at *
  unfold m_candidate
  rw [pure_to]
  unfold b_candidate
  simp [startL]
  refine degree_to ?_
  rw [fracD_11]
  refine one_power_to (n := 1) (FB.one (by omega)) (by omega) (by omega) (by omega) ?_
  have el : (f.ts.length : Int) - 1 = (n : Int) := by omega
  have eS : ((s : Int) - 1).toNat = s - 1 := by omega
  rw [el]
  refine ⟨1, s, ⟨rfl, rfl⟩, ⟨rfl, decide_eq_true (by omega)⟩, ?_⟩
  rw [eS]
  obtain ⟨I, hI⟩ : ∃ I : Nat → NW.Loc → Sto → Prop, ∀ k l st, I k l st ↔ st = ⟨none, []⟩ ∧ k ≤ s - 1 ∧ ∃ h a b c, l = [some (U.d (polyD f)), some (U.d (PyData.int s)), some (U.d (PyData.int n)), some (U.d (polyD h)), a, b, c] ∧ CS f m s n k B h := ⟨_, fun _ _ _ => Iff.rfl⟩
  refine for_ix I (fun k l st h => by obtain ⟨rfl, _⟩ := (hI _ _ _).mp h; exact chk_nil) ((hI _ _ _).mpr ⟨rfl, by omega, _, _, _, _, rfl, ini⟩) ?_ ?_
  · intro k x l st' hx hh
    obtain ⟨rfl, hk, h, a, b, c, rfl, hc⟩ := (hI _ _ _).mp hh
    have hx' : k < s - 1 ∧ x = .int ((k + 1 : Nat) : Int) := by
      unfold rangeD at hx
      rw [List.getElem?_map] at hx
      by_cases g : k < s - 1
      · rw [List.getElem?_range g] at hx
        refine ⟨g, ?_⟩
        have := Option.some.inj hx
        rw [← this]
        congr 1
        simp; omega
      · rw [List.getElem?_eq_none (by simp; omega)] at hx; cases hx
    obtain ⟨hks, rfl⟩ := hx'
    obtain ⟨hc', δ, hval, hδ⟩ := st k (by omega) h hc
    have shp := sz k (by omega) h hc
    have cfb := cf k (by omega) δ hδ
    have e1 : (n : Int) - ((k : Int) + 1) = ((n - (k + 1) : Nat) : Int) := by omega
    have e2 : (s : Int) - ((k : Int) + 1) = ((s - (k + 1) : Nat) : Int) := by omega
    have e3 : (n : Int).fdiv (s : Int) = (m : Int) := by
      rw [hn, Int.natCast_mul, Int.fdiv_eq_ediv_of_nonneg _ (by omega)]
      exact Int.mul_ediv_cancel _ (by omega)
    have fz : f.co n ≠ 0 := by
      have := lead_ne (f := f) (by omega)
      unfold Pol.deg at this
      rwa [hl] at this
    have hms : m * s ≤ 12 := by omega
    have q1 : m * (218 * s + 1 + 10) = 218 * (m * s) + 11 * m := by
      rw [Nat.add_assoc, Nat.mul_add, Nat.mul_left_comm, Nat.mul_comm m (1 + 10)]
    have q2 : (m - 1) * (218 * s + 1 + 10) ≤ m * (218 * s + 1 + 10) := Nat.mul_le_mul_right _ (by omega)
    have q3 : m * (s + 1) = m * s + m := by rw [Nat.mul_add, Nat.mul_one]
    have pwp := (shp.pw (k := m) (by omega)).mono (n' := 2760) (m' := 1000) (by omega) (by omega)
    have dv : divC (n : Int) (s : Int) = true := divC_nat hs (Nat.lt_of_lt_of_le (show s < 2 ^ 4 by omega) (pw_le (by omega)))
    have fm : FB 4 ((m : Int) : Rat) := FB.int (by simp; omega) (by omega)
    have fq := (co_FB (k := n - (k + 1)) hf).div2 (co_FB (k := n) hf) fz
    have ft := fq.sub2 (co_FB (k := n - (k + 1)) pwp)
    simp
    rw [e1, e2, e3]
    refine fraction_at_to (b9 hf (by omega)) ?_
    refine lead_to (b9 hf (by omega)) ?_
    rw [hl, Nat.add_sub_cancel]
    refine dividedx (co_FB hf) (co_FB hf) fz (by omega) ?_
    refine ⟨dv, ?_⟩
    refine powerx shp (by omega) (by omega) (by omega) ?_
    refine fraction_at_to (b9 pwp (by omega)) ?_
    refine takenx fq (co_FB pwp) (by omega) ?_
    refine ⟨dv, ?_⟩
    rw [fracD_int]
    refine dividedx ft fm (nat_ne hm) (by omega) ?_
    refine one_power_to (n := 2399) (by rw [hval]; exact cfb) (by omega) (by omega) (by omega) ?_
    have ms := mono_sz (e := s - (k + 1)) (show FB 2399 ((f.co (n - (k + 1)) / f.co n - (h.pw m).co (n - (k + 1))) / ((m : Int) : Rat)) by rw [hval]; exact cfb)
    refine plusx shp (ms.mono (Nat.le_refl _) (by omega)) (by omega) (by omega) ?_
    exact (hI _ _ _).mpr ⟨rfl, by omega, _, _, _, _, rfl, hc'⟩
  · intro l st' hh
    obtain ⟨rfl, hk, h, a, b, c, rfl, hc⟩ := (hI _ _ _).mp hh
    have : (rangeD 1 1 (s - 1)).length = s - 1 := by unfold rangeD; simp
    rw [this] at hc
    simp
    exact ⟨h, rfl, hc⟩
end NW

namespace NW
open PySem PySem.Spec PyProof.Rows L2
theorem whole_to {i : Int} : (m_L_whole [.int i]).To fun d => d = .bool true := by
  unfold m_L_whole
  rw [pure_to]
  unfold b_L_whole
  simp [startL]
theorem is_poly_to {p : Pol} (hl : p.ts.length ≤ 1000) (hb : p.b < 2 ^ 8999) : (m_L_is_poly [polyD p]).To fun d => d = .bool true := by
  unfold m_L_is_poly
  rw [pure_to]
  unfold b_L_is_poly
  simp [startL, polyD]
  refine whole_to.mono ?_
  rintro _ rfl
  have hpb := p.hb
  refine ⟨rfl, by omega, by omega, ?_⟩
  refine lc_mapA (f := PyData.int) (g := fun _ => .bool true) chk_nil ?_ ?_
  · intro t ht
    simp [wipeL]
    exact whole_to
  · have e : (p.ts.map fun _ => PyData.bool true) = (p.ts.map PyData.int).map fun _ => .bool true := by rw [List.map_map]; rfl
    rw [e]
    refine cAll_yes ?_
    refine ⟨rfl, ?_⟩
    refine L_poly_to (ts := p.ts) (.inr rfl) hpb hb (by omega) ?_
    have e2 : mk p.ts p.b = p := Pol.ext_co fun k => by rw [co_mk hpb]; rfl
    rw [e2]
    show (SeqAt.shaped (polyD p) = true ∧ SeqAt.shaped (polyD p) = true) ∧ (polyD p).eqv (polyD p) = true
    exact ⟨⟨shaped_poly, shaped_poly⟩, eqv_poly.mpr rfl⟩
theorem get_ix {p : Pol} {k : Nat} {t : Int} (hk : k < p.ts.length) (h : p.ts.getD k 0 = t) : ((idxN p.ts.length (k : Int)).bind fun j => Option.map PyData.int p.ts[j]?) = some (.int t) := by
  rw [idxN_nat hk]
  rw [List.getD_eq_getElem?_getD, List.getElem?_eq_getElem hk] at h
  simp [List.getElem?_eq_getElem hk]
  simpa using h
theorem mul_con {p : Pol} {t : Int} {b : Nat} (hb : 0 < b) {r : Rat} (h : Rat.divInt t b = r) : p * mk [t] b = p.sc r := Pol.ext_ev fun x => by
  rw [ev_mul, ev_mk hb, ev_sc, ← h, divInt_div]
  simp [evZ]; grind
theorem L_powerx {p : Pol} {n m k : Nat} {P : PyData → Prop} (hp : PBt n m p) (hk : k * m + 1 + m ≤ 1000) (hn : (k - 1) * (n + 10) + 1 + n ≤ 8999) (hk9 : k ≤ 100) (h : P (polyD (p.pw k))) : (m_L_power [polyD p, .int k]).To P := by
  unfold m_L_power
  rw [pure_to]
  unfold b_L_power
  simp [startL]
  rw [polyD_one]
  refine ⟨decide_eq_true (by omega), ?_⟩
  rw [range_map]
  obtain ⟨I, hI⟩ : ∃ I : Nat → NW.Loc → Sto → Prop, ∀ j l s, I j l s ↔ j ≤ k ∧ ∃ (v : Option U), l = [some (.d (polyD p)), some (.d (.int k)), some (.d (polyD (p.pw j))), v] ∧ s = ⟨none, []⟩ := ⟨_, fun _ _ _ => Iff.rfl⟩
  refine for_ix I (fun j l s h => by obtain ⟨_, _, _, rfl⟩ := (hI _ _ _).mp h; exact chk_nil) ((hI _ _ _).mpr ⟨by omega, none, rfl, rfl⟩) ?_ ?_
  · rintro j x l s hx h
    obtain ⟨hj, v, rfl, rfl⟩ := (hI _ _ _).mp h
    have hx' := (List.getElem?_eq_some_iff.mp hx).1
    simp at hx'
    have e1 : j * m ≤ k * m := Nat.mul_le_mul_right _ hj
    have e2 : j * (n + 10) ≤ (k - 1) * (n + 10) := Nat.mul_le_mul_right _ (by omega)
    simp
    refine L_timesx (hp.pw (by omega)) hp (by omega) (by omega) (by omega) ?_
    exact (hI _ _ _).mpr ⟨by omega, _, rfl, rfl⟩
  · intro l s h'
    obtain ⟨hj, v, rfl, rfl⟩ := (hI _ _ _).mp h'
    simp at hj ⊢
    exact h
theorem is_candidate_to {f h : Pol} {m s n : Nat} (hf : PBt 133 (n + 1) f) (hl : f.ts.length = n + 1) (hn : n = m * s) (hm : 0 < m) (hs : 0 < s) (h12 : n ≤ 12) (hc : CS f m s n (s - 1) (2 ^ 133) h) : (m_L_is_candidate [polyD f, .int s, polyD h]).To fun d => d = .bool true := by
  have ht : f.ts.getD n 0 ≠ 0 := by
    have := tr_get f.ht (fun e => by rw [e] at hl; simp at hl)
    rwa [hl] at this
  have hB : ∀ j, (f.ts.getD j 0).natAbs ≤ 2 ^ 133 := fun j => Nat.le_of_lt (hf.get j)
  have hsn : s ≤ n := by rw [hn]; exact Nat.le_mul_of_pos_left _ hm
  have hmn : m ≤ n := by rw [hn]; exact Nat.le_mul_of_pos_right _ hs
  have shp := hc.sz (by omega) (by omega) hB
  obtain ⟨same, lead, z0, hlen⟩ := hc.same hn hm ht
  unfold m_L_is_candidate
  rw [pure_to]
  unfold b_L_is_candidate
  simp [startL]
  refine (is_poly_to (by omega) (b9 shp (by omega))).mono ?_
  rintro _ rfl
  have el : (f.ts.length : Int) - 1 = (n : Int) := by omega
  have hts : h.ts.getD s 0 = (h.b : Int) := by
    unfold Pol.co at lead
    rw [divInt_div] at lead
    have := h.bne
    have e : ((h.ts.getD s 0 : Int) : Rat) = ((h.b : Int) : Rat) := by grind
    exact Rat.intCast_inj.mp e
  have htz : h.ts.getD 0 0 = 0 := by
    have z := z0 (by omega)
    unfold Pol.co at z
    rw [divInt_div] at z
    have := h.bne
    have e : ((h.ts.getD 0 0 : Int) : Rat) = ((0 : Int) : Rat) := by
      have : ((h.ts.getD 0 0 : Int) : Rat) = 0 := by grind
      rw [this]; rfl
    exact Rat.intCast_inj.mp e
  have hms : m * s ≤ 12 := by omega
  have q1 : m * (218 * s + 1 + 10) = 218 * (m * s) + 11 * m := by
    rw [Nat.add_assoc, Nat.mul_add, Nat.mul_left_comm, Nat.mul_comm m (1 + 10)]
  have q2 : (m - 1) * (218 * s + 1 + 10) ≤ m * (218 * s + 1 + 10) := Nat.mul_le_mul_right _ (by omega)
  have q3 : m * (s + 1) = m * s + m := by rw [Nat.mul_add, Nat.mul_one]
  have pwp := (shp.pw (k := m) (by omega)).mono (n' := 2760) (m' := 100) (by omega) (by omega)
  have dv : divC (n : Int) (s : Int) = true := divC_nat hs (Nat.lt_of_lt_of_le (show s < 2 ^ 4 by omega) (pw_le (by omega)))
  have e3 : (n : Int).fdiv (s : Int) = (m : Int) := by
    rw [hn, Int.natCast_mul, Int.fdiv_eq_ediv_of_nonneg _ (by omega)]
    exact Int.mul_ediv_cancel _ (by omega)
  rw [el, e3]
  refine ⟨rfl, by omega, _, get_ix (by omega) hts, rfl, by simp, _, get_ix (k := 0) (by omega) htz, rfl, by simp, dv, ?_⟩
  refine L_powerx shp (by omega) (by omega) (by omega) ?_
  refine ⟨_, get_ix (by omega) rfl, ?_⟩
  refine L_poly_to (ts := [f.ts.getD n 0]) (.inl rfl) f.hb (b9 hf (by omega)) (by simp) ?_
  have sc : PBt 133 1 (NW.mk [f.ts.getD n 0] f.b) := PBt.mk f.hb (by simp) hf.2.1 (by simpa using hf.get n)
  refine L_timesx pwp sc (by omega) (by omega) (by omega) ?_
  have sp := pwp.mul sc (by omega)
  have eq : ∀ j, j < s → (h.pw m * NW.mk [f.ts.getD n 0] f.b).co (n - j) = f.co (n - j) := fun j hj => by
    rw [mul_con f.hb (r := f.co n) rfl, co_sc]
    exact same j (by omega) (by omega)
  generalize h.pw m * NW.mk [f.ts.getD n 0] f.b = w at *
  refine ⟨decide_eq_true (by omega), by omega, ?_⟩
  rw [range_map]
  refine lc_mapA (f := fun i : Nat => PyData.int i) (g := fun _ => .bool true) chk_nil ?_ ?_
  · intro i hi
    have hi' : i < s := List.mem_range.mp hi
    have e1 : (n : Int) - (i : Int) = ((n - i : Nat) : Int) := by omega
    simp [wipeL]
    rw [e1]
    refine L_at_2_to (b9 sp (by omega)) ?_
    refine L_at_2_to (b9 hf (by omega)) ?_
    rw [eq i hi']
    simp
  · have e : ((List.range s).map fun _ => PyData.bool true) = ((List.range s).map fun i : Nat => PyData.int i).map fun _ => .bool true := by rw [List.map_map]; rfl
    rw [e]
    exact cAll_yes rfl
def DvI (n : Nat) (x : PyData) : Prop := ∃ s m : Nat, x = .int s ∧ n = m * s ∧ 0 < s ∧ 0 < m
theorem divisors_to {f : Pol} {n : Nat} (hl : f.ts.length = n + 1) (h12 : n ≤ 12) (h1 : 1 ≤ n) : (m_L_divisors [polyD f]).To fun d => ∃ xs, d = .list xs ∧ xs.length ≤ 12 ∧ ∀ x, x ∈ xs → DvI n x := by
  unfold m_L_divisors
  rw [pure_to]
  unfold b_L_divisors
  simp [startL]
  have el : (f.ts.length : Int) - 1 = (n : Int) := by omega
  rw [el]
  refine ⟨1, f.ts.length, ⟨rfl, rfl⟩, ⟨rfl, decide_eq_true (by omega)⟩, by omega, ?_⟩
  have en : ((f.ts.length : Int) - 1).toNat = n := by omega
  rw [en]
  have mem : ∀ x, x ∈ rangeD 1 1 n → ∃ k : Nat, x = .int k ∧ 1 ≤ k ∧ k ≤ n := fun x hx => by
    unfold rangeD at hx
    obtain ⟨i, hi, rfl⟩ := List.mem_map.mp hx
    have := List.mem_range.mp hi
    exact ⟨i + 1, by congr 1; simp; omega, by omega, by omega⟩
  refine (lc_to (st := ⟨none, []⟩) (I := fun ys acc s => s = ⟨none, []⟩ ∧ (∀ x, x ∈ ys → ∃ k : Nat, x = .int k ∧ 1 ≤ k ∧ k ≤ n) ∧ (∀ x, x ∈ acc → DvI n x) ∧ acc.length + ys.length ≤ 12) (P := fun ys s => ys.length ≤ 12 ∧ ∀ x, x ∈ ys → DvI n x) (fun _ _ _ h => by rw [h.1]; exact chk_nil) ?_ ?_ (rangeD 1 1 n) [] ⟨rfl, mem, by simp, by unfold rangeD; simp; omega⟩).mono ?_
  · rintro x xs acc s ⟨rfl, hx, ha, hlen⟩
    obtain ⟨k, rfl, k1, k2⟩ := hx x (by simp)
    have dv : divC (n : Int) (k : Int) = true := divC_nat (by omega) (Nat.lt_of_lt_of_le (show k < 2 ^ 4 by omega) (pw_le (by omega)))
    have em : (n : Int).fmod (k : Int) = ((n % k : Nat) : Int) := by rw [Int.fmod_eq_emod_of_nonneg _ (by omega)]; omega
    have hx' : ∀ x, x ∈ xs → ∃ k : Nat, x = .int k ∧ 1 ≤ k ∧ k ≤ n := fun x h => hx x (by simp [h])
    simp at hlen
    simp [wipeL, dv, em]
    refine ⟨by omega, ?_⟩
    by_cases h : (n : Int) % (k : Int) = 0
    · refine .inr ⟨h, hx', fun y hy => ?_, by omega⟩
      rcases hy with hy | rfl
      · exact ha y hy
      · have hd : n % k = 0 := by omega
        have e := Nat.div_add_mod n k
        rw [hd, Nat.add_zero, Nat.mul_comm] at e
        refine ⟨k, n / k, rfl, e.symm, by omega, Nat.div_pos k2 (by omega)⟩
    · exact .inl ⟨h, hx', ha, by omega⟩
  · rintro acc s ⟨rfl, _, ha, hlen⟩
    exact ⟨by simpa using hlen, ha⟩
  · rintro ys s ⟨a, b⟩
    simp at a b
    exact ⟨a, b⟩
theorem right_18_to {f : Pol} {n : Nat} (hf : PBt 133 (n + 1) f) (hl : f.ts.length = n + 1) (h12 : n ≤ 12) (h1 : 1 ≤ n) : (m_L_right_18 [polyD f]).To fun d => d = .bool true := by
  unfold m_L_right_18
  rw [pure_to]
  unfold b_L_right_18
  simp [startL]
  refine (divisors_to hl h12 h1).mono ?_
  rintro _ ⟨xs, rfl, xl, hx⟩
  simp
  refine ⟨by omega, ?_⟩
  refine lc_map (g := fun _ => .bool true) ?_ ?_
  · intro x hx'
    obtain ⟨s, m, rfl, hn, hs, hm⟩ := hx x hx'
    simp [wipeL]
    refine (candidate_to hf hl hn hm hs h12).mono ?_
    rintro _ ⟨h, rfl, hc⟩
    exact is_candidate_to hf hl hn hm hs h12 hc
  · exact cAll_yes rfl
/-! the drawn ones -/
theorem neat_poly_to {f : Fl} (hf : FlOk f) {many : Nat} {most : Int} {n : Nat} (h2 : 2 ≤ many) (hm : many ≤ 30) (h0 : 1 ≤ most) (h1 : most ≤ 10 ^ 40) (hn : most < 2 ^ n) (h3 : 3 ≤ n) (h4 : n ≤ 8000) : (m_L_neat_poly [.int many, .int most] f).To fun d f' => ∃ p, d = polyD p ∧ PBt n (many + 1) p ∧ p.ts.length = many + 1 ∧ FlOk f' := by
  unfold m_L_neat_poly
  rw [flow_to]
  unfold b_L_neat_poly
  have hc : ((2 ^ n : Nat) : Int) = 2 ^ n := by simp
  have h5 : 2 ^ 3 ≤ 2 ^ n := pw_le h3
  simp [startL]
  refine (pick_to hf (by omega) (by omega)).mono ?_
  rintro _ g1 ⟨i, rfl, i1, i2, o1⟩
  refine ixl_to (p := fun x => ∃ j : Int, x = .int j ∧ 1 ≤ j ∧ j ≤ 4) i1 i2 (by simp) ?_
  rintro _ ⟨mb, rfl, mb0, mb1⟩
  try simp
  refine (pick_to o1 (by omega) (by omega)).mono ?_
  rintro _ g2 ⟨w, rfl, w1, w2, o2⟩
  try simp
  obtain ⟨b, hb⟩ : ∃ b : Nat, 1 + w = (b : Int) := ⟨(1 + w).toNat, by omega⟩
  rw [hb]
  have hb1 : b < 2 ^ n := by omega
  refine ⟨decide_eq_true (by omega), by omega, ?_⟩
  refine lc_draw (p := fun y => ∃ t, y = .int t ∧ t.natAbs < 2 ^ n) ?_ o2 ?_
  · intro x hx g og
    simp [wipeL]
    refine (L_number_to og (by omega) h1).mono ?_
    rintro _ g1 ⟨v, rfl, v1, v2, o1⟩
    refine (pick_to o1 (by omega) (by omega)).mono ?_
    rintro _ g2 ⟨i, rfl, i1, i2, o2⟩
    simp
    have hv : v.natAbs < 2 ^ n := by omega
    by_cases hi : 0 < i
    · have mc : mulC v 1 = true := mx hv (b := 1) (by decide) (by omega)
      simp [hi, mc]
      exact ⟨o2, hv⟩
    · have mc : mulC v 0 = true := mx hv (b := 1) (by decide) (by omega)
      simp [hi, mc]
      exact ⟨o2, by omega⟩
  · intro ys g3 hl hy o3
    obtain ⟨ts, rfl, ht⟩ := all_int hy
    have hl' : ts.length = many - 1 := by
      have e : ((many : Int) - 1).toNat = many - 1 := by omega
      simpa [rangeD, e] using hl
    simp
    refine ⟨by omega, by omega, ?_⟩
    refine L_poly_to (ts := (0 :: ts) ++ [(b : Int)]) (.inl (by simp)) (by omega) (Nat.lt_of_lt_of_le hb1 (pw_le (by omega))) (by simp; omega) ?_
    refine ⟨_, rfl, PBt.mk (by omega) (by simp [hl']; omega) hb1 fun t h => ?_, by rw [mk_len_eq (by omega) (by omega)]; simp [hl']; omega, o3⟩
    rcases List.mem_append.mp h with h | h
    · rcases List.mem_cons.mp h with rfl | h
      · exact Nat.two_pow_pos _
      · exact ht t h
    · have : t = b := by simpa using h
      subst this; simpa using hb1
theorem within_to {p : Pol} (hl : p.ts.length ≤ 1000) : (m_L_within [polyD p]).To fun d => ∃ b, d = .bool b ∧ (b = true → PBt 133 p.ts.length p) := by
  unfold m_L_within
  rw [pure_to]
  unfold b_L_within
  simp [startL]
  have t4 := ten40'
  by_cases hb : (10000000000000000000000000000000000000000 : Int) ≤ (p.b : Int)
  · exact .inl hb
  · refine .inr ⟨by omega, by omega, ?_⟩
    refine lc_mapA (f := PyData.int) (g := fun t => .bool (decide (absI t < 10000000000000000000000000000000000000000))) chk_nil ?_ ?_
    · intro t ht
      simp [wipeL, absI]
      exact decide_eq_decide.mpr Iff.rfl
    · have e : (p.ts.map fun t => PyData.bool (decide (absI t < 10000000000000000000000000000000000000000))) = (p.ts.map fun t => decide (absI t < 10000000000000000000000000000000000000000)).map .bool := by simp
      rw [e, to_cAll]
      cases h : (p.ts.map fun t => decide (absI t < 10000000000000000000000000000000000000000)).all id with
      | false => exact .inl rfl
      | true =>
        refine .inr ⟨rfl, Nat.le_refl _, by omega, fun t ht => ?_⟩
        have := List.all_eq_true.mp h _ (List.mem_map_of_mem ht)
        have := of_decide_eq_true this
        rw [abs_eq] at this
        omega
theorem ix_any2 {xs : List PyData} {i : Int} {st : Sto} {Q : U → Sto → Prop} (h0 : 0 ≤ i) (h1 : i < xs.length) (h : ∀ x, x ∈ xs → Q (.d x) st) : (fIx (.d (.list xs)) (.d (.int i)) st).To Q := by
  obtain ⟨k, rfl⟩ : ∃ k : Nat, i = k := ⟨i.toNat, by omega⟩
  rw [SeqD.ixn (S := .list xs) (.inl rfl) (i := k) (by omega)]
  exact h _ (List.getElem_mem _)
theorem tu_top {A : Rat} {b : Nat} (hA : FB b A) : ∀ n, (Pol.tu A (n + 1)).co (n + 1) = 1 ∧ (Pol.tu A (n + 1)).ts.length = n + 2
  | 0 => ⟨by show Pol.X.co 1 = 1; simp [Pol.co, Pol.X, divInt_div]; grind, rfl⟩
  | n + 1 => by
    obtain ⟨a, l⟩ := tu_top hA n
    have l2 : (Pol.tu A (n + 1 + 1)).ts.length ≤ n + 1 + 2 := (PBt.tu hA (n + 2)).1
    have l0 := (PBt.tu hA n).1
    have top : (Pol.tu A (n + 2)).co (n + 2) = 1 := by
      rw [Pol.tu, co_sub, co_sc, co_zero_of (p := Pol.tu A n) (by omega)]
      have h := co_mul_top (p := Pol.X) (q := Pol.tu A (n + 1))
      have d1 : Pol.X.deg = 1 := rfl
      have d2 : (Pol.tu A (n + 1)).deg = n + 1 := by unfold Pol.deg; omega
      have x1 : Pol.X.co 1 = 1 := by simp [Pol.co, Pol.X, divInt_div]; grind
      rw [d1, d2, x1, a, show 1 + (n + 1) = n + 2 by omega] at h
      rw [h]; grind
    exact ⟨top, len_of (fun k hk => co_zero_of (by omega)) fun _ => by show (Pol.tu A (n + 2)).co (n + 2) ≠ 0; rw [top]; decide⟩
theorem LtogL3 {f g k : Pol} {P : PyData → Prop} (hf : PBt 3 4 f) (hg : PBt 3 4 g) (hk : PBt 3 4 k) (h : P (polyD (f.comp (g.comp k)))) : (m_L_together [.list [polyD f, polyD g, polyD k]]).To P := by
  unfold m_L_together
  rw [pure_to]
  unfold b_L_together
  have e : idxN 3 (-1) = some 2 := rfl
  have ec : NW.cutD [polyD f, polyD g, polyD k] none (some (-1)) = [polyD f, polyD g] := rfl
  simp [startL, e, ec]
  refine forM_cons chk_nil ?_
  simp
  refine of3 (by decide) hg hk (by decide) (by decide) (by decide) ?_
  refine forM_cons chk_nil ?_
  simp
  refine of3 (by decide) hf (hg.comp3 (by decide) hk (by decide)) (by decide) (by decide) (by decide) ?_
  exact forM_nil chk_nil (by simp; exact h)
def P2 (x : PyData) : Prop := ∃ m k : Nat, x = .tuple [.int m, .int k] ∧ 2 ≤ m ∧ 2 ≤ k ∧ m * k ≤ 12
theorem P2.mk (m k : Nat) (h : 2 ≤ m ∧ 2 ≤ k ∧ m * k ≤ 12) : P2 (.tuple [.int (m : Int), .int (k : Int)]) := ⟨m, k, rfl, h⟩
def DS (p : Pol) : Prop := 2 ≤ p.ts.length ∧ p.ts.length ≤ 13 ∧ PBt 600 13 p
def DF (d : PyData) : Prop := ∃ p, d = polyD p ∧ 2 ≤ p.ts.length ∧ p.ts.length ≤ 13 ∧ PBt 133 p.ts.length p
theorem cut {a b : MS} {l : NW.Loc} {st : Sto} {N : NW.Loc → Sto → Prop} {R : U → Sto → Prop} (M : NW.Loc → Sto → Prop) (h1 : (a l st).To M R) (h2 : ∀ l s, M l s → (b l s).To N R) : (sSeq a b l st).To N R := by
  rw [to_sSeq]
  exact h1.mono h2 fun _ _ h => h
def M6 (i most : Int) (l : NW.Loc) (s : Sto) : Prop := ∃ p g v4 v5 v6 v7 v8 v9 v10, l = [some .flow, some (.d (.int i)), some (.d (.int most)), some (.d (polyD p)), v4, v5, v6, v7, v8, v9, v10] ∧ s = ⟨some g, []⟩ ∧ FlOk g ∧ DS p
theorem drawn_6_to {f : Fl} (hf : FlOk f) : (m_L_drawn_6 [] f).To fun d f' => DF d ∧ FlOk f' := by
  unfold m_L_drawn_6
  rw [flow_to]
  unfold b_L_drawn_6
  refine cut (fun l s => ∃ i g, 0 ≤ i ∧ i < 5 ∧ l = [some .flow, some (.d (.int i)), none, none, none, none, none, none, none, none, none] ∧ s = ⟨some g, []⟩ ∧ FlOk g) ?_ ?_
  · simp [startL]
    refine (pick_to hf (by omega) (by omega)).mono ?_
    rintro _ g1 ⟨i, rfl, i1, i2, o1⟩
    exact ⟨i, i1, i2, rfl, o1⟩
  rintro _ _ ⟨i, g1, i0, i5, rfl, rfl, o1⟩
  refine cut (fun l s => ∃ most g, 3 ≤ most ∧ most ≤ 99 ∧ l = [some .flow, some (.d (.int i)), some (.d (.int most)), none, none, none, none, none, none, none, none] ∧ s = ⟨some g, []⟩ ∧ FlOk g) ?_ ?_
  · simp
    refine (pick_to o1 (by omega) (by omega)).mono ?_
    rintro _ g2 ⟨j, rfl, j1, j2, o2⟩
    refine ixl_to (p := fun x => ∃ j : Int, x = .int j ∧ 3 ≤ j ∧ j ≤ 99) j1 j2 (by simp) ?_
    rintro _ ⟨mb, rfl, mb0, mb1⟩
    exact ⟨mb, mb0, mb1, rfl, _, rfl, o2⟩
  rintro _ _ ⟨most, g2, mo0, mo1, rfl, rfl, o2⟩
  refine cut (M6 i most) ?_ ?_
  · simp
    exact ⟨Pol.X, g2, _, _, _, _, _, _, _, rfl, rfl, o2, by decide, by decide, PBt.X.mono (by omega) (by omega)⟩
  rintro _ _ ⟨p, g, v4, v5, v6, v7, v8, v9, v10, rfl, rfl, og, hp⟩
  refine cut (M6 i most) ?_ ?_
  · by_cases e : i = 0
    · subst e
      simp
      refine (pick_to og (by omega) (by omega)).mono ?_
      rintro _ g3 ⟨j, rfl, j1, j2, o3⟩
      refine ⟨rfl, ?_⟩
      obtain ⟨mb, hmb, mb0, mb1⟩ : ∃ mb : Int, ((idxN 2 (if (PyData.int j).eqv (PyData.int 0) = true then 1 else 0)).bind fun k => [PyData.int 6, PyData.int 12][k]?) = some (.int mb) ∧ 6 ≤ mb ∧ mb ≤ 12 := by
        by_cases hj : j = 0
        · subst hj; exact ⟨12, rfl, by omega, by omega⟩
        · refine ⟨6, ?_, by omega, by omega⟩
          simp [hj]
      refine ⟨_, hmb, ?_⟩
      refine (pickx (b := 200) o3 (by omega) (by omega) (by omega) (by omega)).mono ?_
      rintro _ g4 ⟨w, rfl, w1, w2, o4⟩
      obtain ⟨N, hN⟩ : ∃ N : Nat, 1 + w = (N : Int) := ⟨(1 + w).toNat, by omega⟩
      simp
      rw [hN]
      refine (any_poly_to o4 (n := 7) (by omega) (by omega) (by omega) (by omega) (by omega) (by omega)).mono ?_
      rintro _ g5 ⟨q, rfl, q1, q2, o5⟩
      have dq : DS q := ⟨by omega, by omega, q1.mono (by omega) (by omega)⟩
      refine (pick_to o5 (by omega) (by omega)).mono ?_
      rintro _ g6 ⟨u, rfl, u1, u2, o6⟩
      by_cases hu : u = 0
      · subst hu
        simp
        by_cases h5 : (N : Int) < 5
        · refine .inr ⟨h5, decide_eq_true (by omega), by omega, ?_⟩
          refine lc_draw (p := fun y => ∃ t, y = .int t ∧ t.natAbs < 2 ^ 134) ?_ o6 ?_
          · intro x hx g og
            have t4 := ten40
            simp [wipeL]
            refine (L_number_to og (by omega) (by omega)).mono ?_
            rintro _ g1 ⟨v, rfl, v1, v2, o1⟩
            exact ⟨o1, v, rfl, by omega⟩
          · intro ys g7 hl hy o7
            obtain ⟨ts, rfl, ht⟩ := all_int hy
            have hl' : ts.length = N := by simpa [rangeD] using hl
            refine L_poly_to (ts := ts) (.inl rfl) (by decide) (Nat.lt_of_lt_of_le (show 1 < 2 ^ 1 by decide) (pw_le (by omega))) (by omega) ?_
            have sg : PBt 134 N (NW.mk ts 1) := PBt.mk (by decide) (by omega) (Nat.one_lt_two_pow (by omega)) ht
            refine L_sumx q1 (sg.mono (Nat.le_refl _) (by omega)) (by omega) (by omega) ?_
            have cz : ∀ k, N ≤ k → (NW.mk ts 1).co k = 0 := fun k hk => co_zero_of (by have := sg.1; omega)
            have e : (q + NW.mk ts 1).ts.length = N + 1 := len_of (fun k hk => by rw [co_add, cz k (by omega), co_zero_of (by omega)]; grind) fun _ => by
              rw [co_add, Nat.add_sub_cancel, cz N (Nat.le_refl _)]
              have := lead_ne (f := q) (by omega)
              unfold Pol.deg at this
              rw [q2, Nat.add_sub_cancel] at this
              grind
            exact ⟨q + NW.mk ts 1, g7, _, _, _, _, _, _, _, rfl, rfl, o7, by omega, by omega, (q1.add (sg.mono (Nat.le_refl _) (by omega))).mono (by omega) (by omega)⟩
        · exact .inl ⟨by omega, q, g6, _, _, _, _, _, _, _, rfl, rfl, o6, dq⟩
      · simp [hu]
        exact ⟨q, g6, _, _, _, _, _, _, _, rfl, rfl, o6, dq⟩
    · simp [e]
      exact ⟨_, _, _, _, _, _, _, _, _, rfl, rfl, og, hp⟩
  rintro _ _ ⟨p, g, v4, v5, v6, v7, v8, v9, v10, rfl, rfl, og, hp⟩
  refine cut (M6 i most) ?_ ?_
  · by_cases e : i = 1 ∨ i = 2
    · rcases e with rfl | rfl
      · simp
        refine (pick_to og (by omega) (by omega)).mono ?_
        rintro _ g3 ⟨j, rfl, j1, j2, o3⟩
        refine ix_any2 j1 j2 fun x hx => ?_
        have hx2 : P2 x := by
          simp only [List.mem_cons, List.not_mem_nil, or_false] at hx
          rcases hx with rfl | rfl | rfl | rfl | rfl | rfl | rfl | rfl | rfl | rfl | rfl | rfl
          · exact P2.mk 2 2 (by decide)
          · exact P2.mk 2 3 (by decide)
          · exact P2.mk 3 2 (by decide)
          · exact P2.mk 4 2 (by decide)
          · exact P2.mk 2 4 (by decide)
          · exact P2.mk 3 3 (by decide)
          · exact P2.mk 3 4 (by decide)
          · exact P2.mk 4 3 (by decide)
          · exact P2.mk 6 2 (by decide)
          · exact P2.mk 2 6 (by decide)
          · exact P2.mk 5 2 (by decide)
          · exact P2.mk 2 5 (by decide)
        obtain ⟨m, k, rfl, hm2, hk2, hmk⟩ := hx2
        simp
        have hm6 : m ≤ 6 := by
          have : m * 2 ≤ m * k := Nat.mul_le_mul_left _ hk2
          omega
        have hk6 : k ≤ 6 := by
          have : 2 * k ≤ m * k := Nat.mul_le_mul_right _ hm2
          omega
        refine (any_poly_to o3 (n := 7) (by omega) (by omega) (by omega) (by omega) (by omega) (by omega)).mono ?_
        rintro _ g4 ⟨q, rfl, q1, q2, o4⟩
        try simp
        refine (neat_poly_to o4 (n := 7) hk2 (by omega) (by omega) (by omega) (by omega) (by omega) (by omega)).mono ?_
        rintro _ g5 ⟨r, rfl, r1, r2, o5⟩
        have h4 : 2 * 2 ≤ m * k := Nat.mul_le_mul hm2 hk2
        have q1' : PBt 7 7 q := q1.mono (by omega) (by omega)
        have r1' : PBt 7 7 r := r1.mono (by omega) (by omega)
        refine of3 (by decide) q1' r1' (by omega) (by decide) (by decide) ?_
        have s1 := (q1'.comp3 (by decide) r1' (by decide))
        have len := len_comp (f := q) (g := r) (fun e => by rw [e] at q2; simp at q2) (by omega)
        rw [q2, r2, Nat.add_sub_cancel, Nat.add_sub_cancel] at len
        exact ⟨q.comp r, g5, _, _, _, _, _, _, _, rfl, rfl, o5, by omega, by omega, ⟨by omega, (s1.mono (n' := 600) (m' := 100) (by decide) (by decide)).2⟩⟩
      · simp
        refine (pick_to og (by omega) (by omega)).mono ?_
        rintro _ g3 ⟨j, rfl, j1, j2, o3⟩
        refine ix_any2 j1 j2 fun x hx => ?_
        have hx2 : P2 x := by
          simp only [List.mem_cons, List.not_mem_nil, or_false] at hx
          rcases hx with rfl | rfl | rfl | rfl | rfl | rfl | rfl | rfl | rfl | rfl | rfl | rfl
          · exact P2.mk 2 2 (by decide)
          · exact P2.mk 2 3 (by decide)
          · exact P2.mk 3 2 (by decide)
          · exact P2.mk 4 2 (by decide)
          · exact P2.mk 2 4 (by decide)
          · exact P2.mk 3 3 (by decide)
          · exact P2.mk 3 4 (by decide)
          · exact P2.mk 4 3 (by decide)
          · exact P2.mk 6 2 (by decide)
          · exact P2.mk 2 6 (by decide)
          · exact P2.mk 5 2 (by decide)
          · exact P2.mk 2 5 (by decide)
        obtain ⟨m, k, rfl, hm2, hk2, hmk⟩ := hx2
        simp
        have hm6 : m ≤ 6 := by
          have : m * 2 ≤ m * k := Nat.mul_le_mul_left _ hk2
          omega
        have hk6 : k ≤ 6 := by
          have : 2 * k ≤ m * k := Nat.mul_le_mul_right _ hm2
          omega
        refine (any_poly_to o3 (n := 7) (by omega) (by omega) (by omega) (by omega) (by omega) (by omega)).mono ?_
        rintro _ g4 ⟨q, rfl, q1, q2, o4⟩
        try simp
        refine (neat_poly_to o4 (n := 7) hk2 (by omega) (by omega) (by omega) (by omega) (by omega) (by omega)).mono ?_
        rintro _ g5 ⟨r, rfl, r1, r2, o5⟩
        have h4 : 2 * 2 ≤ m * k := Nat.mul_le_mul hm2 hk2
        have q1' : PBt 7 7 q := q1.mono (by omega) (by omega)
        have r1' : PBt 7 7 r := r1.mono (by omega) (by omega)
        refine of3 (by decide) q1' r1' (by omega) (by decide) (by decide) ?_
        have s1 := (q1'.comp3 (by decide) r1' (by decide))
        have len := len_comp (f := q) (g := r) (fun e => by rw [e] at q2; simp at q2) (by omega)
        rw [q2, r2, Nat.add_sub_cancel, Nat.add_sub_cancel] at len
        exact ⟨q.comp r, g5, _, _, _, _, _, _, _, rfl, rfl, o5, by omega, by omega, ⟨by omega, (s1.mono (n' := 600) (m' := 100) (by decide) (by decide)).2⟩⟩
    · have e1 : i ≠ 1 := fun h => e (.inl h)
      have e2 : i ≠ 2 := fun h => e (.inr h)
      simp [e1, e2]
      exact ⟨_, _, _, _, _, _, _, _, _, rfl, rfl, og, hp⟩
  rintro _ _ ⟨p, g, v4, v5, v6, v7, v8, v9, v10, rfl, rfl, og, hp⟩
  refine cut (M6 i most) ?_ ?_
  · by_cases e : i = 3
    · subst e
      simp
      refine (pick_to og (by omega) (by omega)).mono ?_
      rintro _ g3 ⟨j, rfl, j1, j2, o3⟩
      refine ix_any2 j1 j2 fun x hx => ?_
      obtain ⟨a, b, c, rfl, ha, hb, hc, habc⟩ : ∃ a b c : Nat, x = .tuple [.int a, .int b, .int c] ∧ (2 ≤ a ∧ a ≤ 3) ∧ (2 ≤ b ∧ b ≤ 3) ∧ (2 ≤ c ∧ c ≤ 3) ∧ a * (b * c) ≤ 12 := by
        simp only [List.mem_cons, List.not_mem_nil, or_false] at hx
        rcases hx with rfl | rfl | rfl | rfl
        · exact ⟨2, 2, 2, rfl, by decide⟩
        · exact ⟨2, 2, 3, rfl, by decide⟩
        · exact ⟨2, 3, 2, rfl, by decide⟩
        · exact ⟨3, 2, 2, rfl, by decide⟩
      refine ⟨_, _, rfl, by simp, ?_⟩
      obtain ⟨I, hI⟩ : ∃ I : List PyData → List PyData → Sto → Prop, ∀ ys acc s, I ys acc s ↔ ∃ (ps : List Pol) (us : List Nat) (g : Fl), ys = us.map (fun u : Nat => PyData.int u) ∧ acc = ps.map polyD ∧ ps.map (fun p => p.ts.length) ++ us.map (fun u => u + 1) = [a + 1, b + 1, c + 1] ∧ (∀ u, u ∈ us → 2 ≤ u ∧ u ≤ 3) ∧ (∀ p, p ∈ ps → PBt 3 4 p) ∧ s = ⟨some g, []⟩ ∧ FlOk g := ⟨_, fun _ _ _ => Iff.rfl⟩
      refine (lc_to (st := ⟨some g3, []⟩) (I := I) (P := fun ys s => ∃ (ps : List Pol) (g : Fl), ys = ps.map polyD ∧ ps.map (fun p => p.ts.length) = [a + 1, b + 1, c + 1] ∧ (∀ p, p ∈ ps → PBt 3 4 p) ∧ s = ⟨some g, []⟩ ∧ FlOk g) (fun _ _ _ h => by obtain ⟨_, _, _, _, _, _, _, _, rfl, _⟩ := (hI _ _ _).mp h; exact chk_nil) ?_ ?_ [.int a, .int b, .int c] [] ((hI _ _ _).mpr ⟨[], [a, b, c], g3, rfl, rfl, rfl, by simp; omega, by simp, rfl, o3⟩)).mono ?_
      · rintro x xs acc s hh
        obtain ⟨ps, us, g4, e1, rfl, e2, hu, hp, rfl, o4⟩ := (hI _ _ _).mp hh
        clear hh
        cases us with
        | nil => cases e1
        | cons u us =>
          cases e1
          have hu0 := hu u (by simp)
          simp [wipeL]
          refine (any_poly_to o4 (n := 3) (by omega) (by omega) (by decide) (by decide) (by omega) (by omega)).mono ?_
          rintro _ g5 ⟨q, rfl, q1, q2, o5⟩
          refine (hI _ _ _).mpr ⟨ps ++ [q], us, g5, rfl, by simp, by simpa [q2] using e2, fun v hv => hu v (by simp [hv]), fun r hr => ?_, rfl, o5⟩
          rcases List.mem_append.mp hr with hr | hr
          · exact hp r hr
          · have : r = q := by simpa using hr
            subst this; exact q1.mono (by omega) (by omega)
      · rintro acc s hh
        obtain ⟨ps, us, g4, e1, rfl, e2, hu, hp, rfl, o4⟩ := (hI _ _ _).mp hh
        clear hh
        have : us = [] := by cases us with | nil => rfl | cons u us => cases e1
        subst this
        exact ⟨ps, g4, rfl, by simpa using e2, hp, rfl, o4⟩
      · rintro ys s ⟨ps, g4, e0, e2, hp, rfl, o4⟩
        simp at e0
        subst e0
        have l3 : ps.length = 3 := by simpa using congrArg List.length e2
        match ps, l3 with
        | [q, r, t], _ =>
        simp at e2
        obtain ⟨lq, lr, lt⟩ := e2
        have sq := hp q (by simp)
        have sr := hp r (by simp)
        have st := hp t (by simp)
        refine LtogL3 sq sr st ?_
        have s1 := sr.comp3 (by decide) st (by decide)
        have s2 := sq.comp3 (by decide) s1 (by decide)
        have len1 := len_comp (f := r) (g := t) (fun e => by rw [e] at lr; simp at lr) (by omega)
        rw [lr, lt, Nat.add_sub_cancel, Nat.add_sub_cancel] at len1
        have h4 : 2 * 2 ≤ b * c := Nat.mul_le_mul hb.1 hc.1
        have h8 : 2 * (b * c) ≤ a * (b * c) := Nat.mul_le_mul_right _ ha.1
        have len2 := len_comp (f := q) (g := r.comp t) (fun e => by rw [e] at lq; simp at lq) (by omega)
        rw [lq, len1, Nat.add_sub_cancel, Nat.add_sub_cancel] at len2
        exact ⟨q.comp (r.comp t), g4, _, _, _, _, _, _, _, rfl, rfl, o4, by omega, by omega, ⟨by omega, (s2.mono (n' := 600) (m' := 100) (by decide) (by decide)).2⟩⟩
    · simp [e]
      exact ⟨_, _, _, _, _, _, _, _, _, rfl, rfl, og, hp⟩
  rintro _ _ ⟨p, g, v4, v5, v6, v7, v8, v9, v10, rfl, rfl, og, hp⟩
  refine cut (M6 i most) ?_ ?_
  · by_cases e : i = 4
    · subst e
      simp
      refine (pick_to og (by omega) (by omega)).mono ?_
      rintro _ g3 ⟨j, rfl, j1, j2, o3⟩
      refine ix_any2 j1 j2 fun x hx => ?_
      obtain ⟨n, rfl, n2, n12⟩ : ∃ n : Nat, x = .int n ∧ 2 ≤ n ∧ n ≤ 12 := by
        simp at hx
        rcases hx with rfl | rfl | rfl | rfl | rfl | rfl | rfl
        · exact ⟨2, rfl, by omega, by omega⟩
        · exact ⟨4, rfl, by omega, by omega⟩
        · exact ⟨6, rfl, by omega, by omega⟩
        · exact ⟨8, rfl, by omega, by omega⟩
        · exact ⟨9, rfl, by omega, by omega⟩
        · exact ⟨10, rfl, by omega, by omega⟩
        · exact ⟨12, rfl, by omega, by omega⟩
      simp
      refine (L_number_to o3 (by omega) (by decide)).mono ?_
      rintro _ g4 ⟨v, rfl, v1, v2, o4⟩
      try simp
      rw [fracD_int]
      have fv : FB 2 ((v : Int) : Rat) := FB.int (by omega) (by omega)
      refine turning_to fv (by omega) (by omega) n12 ?_
      obtain ⟨_, tl⟩ := tu_top fv (n - 1)
      rw [show n - 1 + 1 = n by omega, show n - 1 + 2 = n + 1 by omega] at tl
      have ts := (PBt.tu fv n).mono (n' := 38) (m' := 13) (by omega) (by omega)
      refine (any_straight_to o4 (n := 2) (by decide) (by decide) (by decide) (by omega) (by omega)).mono ?_
      rintro _ g5 ⟨a, b, rfl, ha, fa, fb, o5⟩
      try simp
      refine (any_straight_to o5 (n := 2) (by decide) (by decide) (by decide) (by omega) (by omega)).mono ?_
      rintro _ g6 ⟨c, d, rfl, hc, fc, fd, o6⟩
      try simp
      have l1 := PBt.lin2 fa fb
      have l2 := PBt.lin2 fc fd
      refine of3 (by decide) ts l2 (by omega) (by decide) (by decide) ?_
      have s1 := (ts.comp3 (by decide) l2 (by decide)).mono (n' := 219) (m' := 13) (by decide) (by decide)
      have len1 := comp_lin_len (g := Pol.tu (v : Rat) n) (i := Pol.lin c d) (fun e => by rw [e] at tl; simp at tl) (lin_len hc)
      refine of3 (by decide) l1 s1 (by omega) (by decide) (by decide) ?_
      have s2 := (l1.comp3 (by decide) s1 (by decide)).mono (n' := 600) (m' := 13) (by decide) (by decide)
      have len2 := (lin_top (w := (Pol.tu (v : Rat) n).comp (Pol.lin c d)) (b := b) ha (by omega)).1
      exact ⟨(Pol.lin a b).comp ((Pol.tu (v : Rat) n).comp (Pol.lin c d)), g6, _, _, _, _, _, _, _, rfl, rfl, o6, by omega, by omega, s2⟩
    · simp [e]
      exact ⟨_, _, _, _, _, _, _, _, _, rfl, rfl, og, hp⟩
  rintro _ _ ⟨p, g, v4, v5, v6, v7, v8, v9, v10, rfl, rfl, og, hp⟩
  simp
  refine (within_to (by have := hp.2.1; omega)).mono ?_
  rintro _ ⟨b, rfl, hb⟩
  cases b with
  | true => exact .inr ⟨rfl, ⟨p, rfl, hp.1, hp.2.1, hb rfl⟩, og⟩
  | false =>
    refine .inl ⟨rfl, ?_⟩
    rw [fMulA_k (r := 12) (by omega) (by omega) (by decide)]
    simp
    refine L_poly_to (ts := List.replicate 12 0 ++ [1]) (.inl (by simp)) (by decide) (Nat.lt_of_lt_of_le (show 1 < 2 ^ 1 by decide) (pw_le (by omega))) (by simp) ?_
    have e := mk_len_eq (ts := List.replicate 12 0) (t := 1) (b := 1) (by decide) (by decide)
    rw [List.length_replicate] at e
    refine ⟨⟨NW.mk (List.replicate 12 0 ++ [1]) 1, rfl, by omega, by omega, PBt.mk (by decide) (by rw [e]; simp) (Nat.one_lt_two_pow (by omega)) fun t ht => ?_⟩, og⟩
    rcases List.mem_append.mp ht with ht | ht
    · rw [(List.mem_replicate.mp ht).2]; exact Nat.two_pow_pos _
    · have : t = 1 := by simpa using ht
      subst this; exact Nat.one_lt_two_pow (by omega)
end NW
namespace K28
open PySem PySem.Spec PyProof.Rows L2 NW
theorem hsem : ∀ ns : List Int, ns.length ≤ 63 → ∃ st', b_law_k28 ((startL 5 [.scr ns]).set 1 (some .flow)) ⟨some (fl0 ns), []⟩ = .rt (.d (.bool true)) st' := by
  intro ns _
  refine rt_true ?_
  unfold b_law_k28
  simp [startL]
  refine ⟨rfl, ?_⟩
  refine lc_draw (p := DF) ?_ (fl0_ok ns) ?_
  · intro x hx g og
    simp [wipeL]
    refine (drawn_6_to og).mono ?_
    rintro _ g1 ⟨hd, o1⟩
    exact ⟨o1, hd⟩
  · intro ys g1 hl hp o1
    have hl2 : ys.length = 3 := hl
    match ys, hl2 with
    | [a, b, c], _ =>
    have ec : NW.cutD [a, b, c] none (some 1) = [a] := rfl
    rw [ec]
    refine ⟨by simp, ?_⟩
    refine lc_map (g := fun _ => .bool true) ?_ ?_
    · intro x hx
      obtain ⟨p, rfl, p1, p2, p3⟩ : DF x := by
        simp at hx
        rcases hx with rfl | rfl | rfl | rfl <;> exact hp _ (by simp)
      simp [wipeL]
      exact right_18_to (n := p.ts.length - 1) (by rw [Nat.sub_add_cancel (by omega)]; exact p3) (by omega) (by omega) (by omega)
    · exact cAll_yes rfl
end K28

namespace K28
open PySem PySem.Spec PyProof.Rows L2 NW
def topS (i : Nat) : Stmt := PySem.Challenge.pw_nestwright_k28_candidates.main.body.getD i (.Pass ⟨0, 0, 0, 0⟩)
/-! common_part -/
abbrev s_common_part : Stmt := topS 1
theorem sc_common_part : FnScope [("one" : Str), ("other" : Str)] [("one" : Str), ("other" : Str)] (defScope s_common_part) := ⟨rfl, rfl, rfl, by decide +kernel, rfl, by decide +kernel, by decide +kernel⟩
theorem k_common_part {P : Program} {w : World} {K : PySem.W.Frag} {mg : Str → Option Value} {base : Heap} (z_abs : mg "abs" = none) (D : DefIn K mg "common_part" s_common_part [("one" : Str), ("other" : Str)]) : Cal P w K mg base 1 "common_part" [("one" : Str), ("other" : Str)] (spP K 2 m_common_part) := by
  unfold m_common_part
  exact calP D sc_common_part (by decide) (fun f cdv A outer s H E hr => ⟨_, ((qss_cons (qs_while PassesOwn.never (qt_ne hr (q_var 1) q_int)
    (qss_one (qs_par 0 1 rfl sc_common_part.nd (qa_cons (q_var 1) (qa_cons (q_mod (q_var 0) (q_var 1)) qa_nil)))))
    (qss_one (qs_ret (q_abs z_abs (qa_cons (q_var 0) qa_nil))))))⟩)
/-! fraction -/
abbrev s_fraction : Stmt := topS 2
theorem sc_fraction : FnScope [("top" : Str), ("bottom" : Str), ("part" : Str)] [("top" : Str), ("bottom" : Str)] (defScope s_fraction) := ⟨rfl, rfl, rfl, by decide +kernel, rfl, by decide +kernel, by decide +kernel⟩
theorem k_fraction {P : Program} {w : World} {K : PySem.W.Frag} {mg : Str → Option Value} {base : Heap} (k_common_part : Cal P w K mg base 1 "common_part" [("one" : Str), ("other" : Str)] (spP K 2 m_common_part)) (D : DefIn K mg "fraction" s_fraction [("top" : Str), ("bottom" : Str)]) : Cal P w K mg base 2 "fraction" [("top" : Str), ("bottom" : Str)] (spP K 2 m_fraction) := by
  unfold m_fraction
  exact calP D sc_fraction (by decide) (fun f cdv A outer s H E hr => ⟨_, ((qss_cons (qs_set 2 sc_fraction.nd (q_calP k_common_part hr (by decide) (qa_cons (q_var 0) (qa_cons (q_var 1) qa_nil))))
    (qss_cons (qs_if (qt_lt (q_var 1) q_int)
    (qss_one (qs_set 2 sc_fraction.nd (q_sub q_int (q_var 2))))
    qss_nil)
    (qss_one (qs_ret (q_tup (qa_cons (q_div (q_var 0) (q_var 2)) (qa_cons (q_div (q_var 1) (q_var 2)) qa_nil))))))))⟩)
/-! taken -/
abbrev s_taken : Stmt := topS 3
theorem sc_taken : FnScope [("one" : Str), ("other" : Str)] [("one" : Str), ("other" : Str)] (defScope s_taken) := ⟨rfl, rfl, rfl, by decide +kernel, rfl, by decide +kernel, by decide +kernel⟩
theorem k_taken {P : Program} {w : World} {K : PySem.W.Frag} {mg : Str → Option Value} {base : Heap} (k_fraction : Cal P w K mg base 2 "fraction" [("top" : Str), ("bottom" : Str)] (spP K 2 m_fraction)) (D : DefIn K mg "taken" s_taken [("one" : Str), ("other" : Str)]) : Cal P w K mg base 3 "taken" [("one" : Str), ("other" : Str)] (spP K 2 m_taken) := by
  unfold m_taken
  exact calP D sc_taken (by decide) (fun f cdv A outer s H E hr => ⟨_, ((qss_one (qs_ret (q_calP k_fraction hr (by decide) (qa_cons (q_sub (q_mulA (q_ix (q_var 0) q_int) (q_ix (q_var 1) q_int)) (q_mulA (q_ix (q_var 1) q_int) (q_ix (q_var 0) q_int))) (qa_cons (q_mulA (q_ix (q_var 0) q_int) (q_ix (q_var 1) q_int)) qa_nil))))))⟩)
/-! divided -/
abbrev s_divided : Stmt := topS 4
theorem sc_divided : FnScope [("one" : Str), ("other" : Str)] [("one" : Str), ("other" : Str)] (defScope s_divided) := ⟨rfl, rfl, rfl, by decide +kernel, rfl, by decide +kernel, by decide +kernel⟩
theorem k_divided {P : Program} {w : World} {K : PySem.W.Frag} {mg : Str → Option Value} {base : Heap} (k_fraction : Cal P w K mg base 2 "fraction" [("top" : Str), ("bottom" : Str)] (spP K 2 m_fraction)) (D : DefIn K mg "divided" s_divided [("one" : Str), ("other" : Str)]) : Cal P w K mg base 3 "divided" [("one" : Str), ("other" : Str)] (spP K 2 m_divided) := by
  unfold m_divided
  exact calP D sc_divided (by decide) (fun f cdv A outer s H E hr => ⟨_, ((qss_one (qs_ret (q_calP k_fraction hr (by decide) (qa_cons (q_mulA (q_ix (q_var 0) q_int) (q_ix (q_var 1) q_int)) (qa_cons (q_mulA (q_ix (q_var 0) q_int) (q_ix (q_var 1) q_int)) qa_nil))))))⟩)
/-! over -/
abbrev s_over : Stmt := topS 7
theorem sc_over : FnScope [("tops" : Str), ("bottom" : Str), ("many" : Str), ("part" : Str), ("top" : Str)] [("tops" : Str), ("bottom" : Str)] (defScope s_over) := ⟨rfl, rfl, rfl, by decide +kernel, rfl, by decide +kernel, by decide +kernel⟩
theorem k_over {P : Program} {w : World} {K : PySem.W.Frag} {mg : Str → Option Value} {base : Heap} (z_len : mg "len" = none) (z_tuple : mg "tuple" = none) (k_common_part : Cal P w K mg base 1 "common_part" [("one" : Str), ("other" : Str)] (spP K 2 m_common_part)) (D : DefIn K mg "over" s_over [("tops" : Str), ("bottom" : Str)]) : Cal P w K mg base 2 "over" [("tops" : Str), ("bottom" : Str)] (spP K 2 m_over) := by
  unfold m_over
  exact calP D sc_over (by decide) (fun f cdv A outer s H E hr => ⟨_, ((qss_cons (qs_set 2 sc_over.nd (q_len z_len (qa_cons (q_var 0) qa_nil)))
    (qss_cons (qs_while PassesOwn.never (qt_w (qw_and (qt_gt (q_var 2) q_int) (qw_and1 (qt_eq hr (q_ix (q_var 0) (q_sub (q_var 2) q_int)) q_int))))
    (qss_one (qs_set 2 sc_over.nd (q_sub (q_var 2) q_int))))
    (qss_cons (qs_set 3 sc_over.nd (q_var 1))
    (qss_cons (qs_for PassesOwn.never rfl (qi_any (q_slA (q_var 0) qo_none (qo_some (q_var 2)))) (qg_name 4 sc_over.nd)
    (qss_one (qs_set 3 sc_over.nd (q_calP k_common_part hr (by decide) (qa_cons (q_var 3) (qa_cons (q_var 4) qa_nil))))))
    (qss_one (qs_ret (q_tup (qa_cons (q_tuple z_tuple (qa_cons (q_frz (qn_lc (g := (gName 4)) (tt := tYes) (te := (tOp rDivI (tVar 4) (tVar 3))) (gm := (gNameM 4)) (cm := bYes) (em := (eOp fDiv (eVar 4) (eVar 3))) (ws := [4]) [(("top" : Str), 4)] rfl sc_over.nd (qi_any (q_slA (q_var 0) qo_none (qo_some (q_var 2)))) rfl rfl (by kernel_rfl) (fun _ _ _ _ _ => (qg_name 4 sc_over.nd)) (fun _ _ _ _ _ => qts_nil) (fun _ _ _ _ _ => (q_div (q_var 4) (q_var 3))) (by decide))) qa_nil)) (qa_cons (q_div (q_var 1) (q_var 3)) qa_nil))))))))))⟩)
/-! poly -/
abbrev s_poly : Stmt := topS 8
theorem sc_poly : FnScope [("some" : Str), ("bottom" : Str), ("top" : Str), ("own" : Str)] [("some" : Str)] (defScope s_poly) := ⟨rfl, rfl, rfl, by decide +kernel, rfl, by decide +kernel, by decide +kernel⟩
theorem k_poly {P : Program} {w : World} {K : PySem.W.Frag} {mg : Str → Option Value} {base : Heap} (k_over : Cal P w K mg base 2 "over" [("tops" : Str), ("bottom" : Str)] (spP K 2 m_over)) (k_common_part : Cal P w K mg base 1 "common_part" [("one" : Str), ("other" : Str)] (spP K 2 m_common_part)) (D : DefIn K mg "poly" s_poly [("some" : Str)]) : Cal P w K mg base 3 "poly" [("some" : Str)] (spP K 1 m_poly) := by
  unfold m_poly
  exact calP D sc_poly (by decide) (fun f cdv A outer s H E hr => ⟨_, ((qss_cons (qs_set 1 sc_poly.nd q_int)
    (qss_cons (qs_for PassesOwn.never rfl (qi_any (q_var 0)) (qg_tup rfl (qgs_cons (qg_name 2 sc_poly.nd) (gName_noEx 2) (qgs_cons (qg_name 3 sc_poly.nd) (gName_noEx 3) qgs_nil)))
    (qss_one (qs_set 1 sc_poly.nd (q_div (q_mulA (q_var 1) (q_var 3)) (q_calP k_common_part hr (by decide) (qa_cons (q_var 1) (qa_cons (q_var 3) qa_nil)))))))
    (qss_one (qs_ret (q_calP k_over hr (by decide) (qa_cons (q_frz (qn_lc (g := (gTup K 2 (gCons (gName 2) (gCons (gName 3) gNil)))) (tt := tYes) (te := (tOp rMulA (tVar 2) (tOp rDivI (tVar 1) (tVar 3)))) (gm := (gTupM 2 (gConsM (gNameM 2) (gConsM (gNameM 3) gNilM)))) (cm := bYes) (em := (eOp fMulA (eVar 2) (eOp fDiv (eVar 1) (eVar 3)))) (ws := ([2] ++ ([3] ++ []))) [(("top" : Str), 2), (("own" : Str), 3)] rfl sc_poly.nd (qi_any (q_var 0)) rfl rfl (by kernel_rfl) (fun _ _ _ _ _ => (qg_tup rfl (qgs_cons (qg_name 2 sc_poly.nd) (gName_noEx 2) (qgs_cons (qg_name 3 sc_poly.nd) (gName_noEx 3) qgs_nil)))) (fun _ _ _ _ _ => qts_nil) (fun _ _ _ _ _ => (q_mulA (q_var 2) (q_div (q_var 1) (q_var 3)))) (by decide))) (qa_cons (q_var 1) qa_nil))))))))⟩)
/-! fraction_at -/
abbrev s_fraction_at : Stmt := topS 9
theorem sc_fraction_at : FnScope [("p" : Str), ("k" : Str)] [("p" : Str), ("k" : Str)] (defScope s_fraction_at) := ⟨rfl, rfl, rfl, by decide +kernel, rfl, by decide +kernel, by decide +kernel⟩
theorem k_fraction_at {P : Program} {w : World} {K : PySem.W.Frag} {mg : Str → Option Value} {base : Heap} (z_len : mg "len" = none) (k_fraction : Cal P w K mg base 2 "fraction" [("top" : Str), ("bottom" : Str)] (spP K 2 m_fraction)) (D : DefIn K mg "fraction_at" s_fraction_at [("p" : Str), ("k" : Str)]) : Cal P w K mg base 3 "fraction_at" [("p" : Str), ("k" : Str)] (spP K 2 m_fraction_at) := by
  unfold m_fraction_at
  exact calP D sc_fraction_at (by decide) (fun f cdv A outer s H E hr => ⟨_, ((qss_cons (qs_if (qt_ge (q_var 1) (q_len z_len (qa_cons (q_ix (q_var 0) q_int) qa_nil)))
    (qss_one (qs_ret (q_tup (qa_cons q_int (qa_cons q_int qa_nil)))))
    qss_nil)
    (qss_one (qs_ret (q_calP k_fraction hr (by decide) (qa_cons (q_ix (q_ix (q_var 0) q_int) (q_var 1)) (qa_cons (q_ix (q_var 0) q_int) qa_nil)))))))⟩)
/-! degree -/
abbrev s_degree : Stmt := topS 10
theorem sc_degree : FnScope [("p" : Str)] [("p" : Str)] (defScope s_degree) := ⟨rfl, rfl, rfl, by decide +kernel, rfl, by decide +kernel, by decide +kernel⟩
theorem k_degree {P : Program} {w : World} {K : PySem.W.Frag} {mg : Str → Option Value} {base : Heap} (z_len : mg "len" = none) (D : DefIn K mg "degree" s_degree [("p" : Str)]) : Cal P w K mg base 1 "degree" [("p" : Str)] (spP K 1 m_degree) := by
  unfold m_degree
  exact calP D sc_degree (by decide) (fun f cdv A outer s H E hr => ⟨_, ((qss_one (qs_ret (q_sub (q_len z_len (qa_cons (q_ix (q_var 0) q_int) qa_nil)) q_int))))⟩)
/-! lead -/
abbrev s_lead : Stmt := topS 11
theorem sc_lead : FnScope [("p" : Str)] [("p" : Str)] (defScope s_lead) := ⟨rfl, rfl, rfl, by decide +kernel, rfl, by decide +kernel, by decide +kernel⟩
theorem k_lead {P : Program} {w : World} {K : PySem.W.Frag} {mg : Str → Option Value} {base : Heap} (z_len : mg "len" = none) (k_fraction_at : Cal P w K mg base 3 "fraction_at" [("p" : Str), ("k" : Str)] (spP K 2 m_fraction_at)) (k_degree : Cal P w K mg base 1 "degree" [("p" : Str)] (spP K 1 m_degree)) (D : DefIn K mg "lead" s_lead [("p" : Str)]) : Cal P w K mg base 4 "lead" [("p" : Str)] (spP K 1 m_lead) := by
  unfold m_lead
  exact calP D sc_lead (by decide) (fun f cdv A outer s H E hr => ⟨_, ((qss_cons (qs_if (qt_eq hr (q_len z_len (qa_cons (q_ix (q_var 0) q_int) qa_nil)) q_int)
    (qss_one (qs_ret (q_tup (qa_cons q_int (qa_cons q_int qa_nil)))))
    qss_nil)
    (qss_one (qs_ret (q_calP k_fraction_at hr (by decide) (qa_cons (q_var 0) (qa_cons (q_calP k_degree hr (by decide) (qa_cons (q_var 0) qa_nil)) qa_nil)))))))⟩)
/-! plus -/
abbrev s_plus : Stmt := topS 12
theorem sc_plus : FnScope [("p" : Str), ("other" : Str), ("found" : Str), ("k" : Str), ("top" : Str)] [("p" : Str), ("other" : Str)] (defScope s_plus) := ⟨rfl, rfl, rfl, by decide +kernel, rfl, by decide +kernel, by decide +kernel⟩
theorem k_plus {P : Program} {w : World} {K : PySem.W.Frag} {mg : Str → Option Value} {base : Heap} (z_enumerate : mg "enumerate" = none) (z_len : mg "len" = none) (z_max : mg "max" = none) (k_over : Cal P w K mg base 2 "over" [("tops" : Str), ("bottom" : Str)] (spP K 2 m_over)) (D : DefIn K mg "plus" s_plus [("p" : Str), ("other" : Str)]) : Cal P w K mg base 3 "plus" [("p" : Str), ("other" : Str)] (spP K 2 m_plus) := by
  unfold m_plus
  exact calP D sc_plus (by decide) (fun f cdv A outer s H E hr => ⟨_, ((qss_cons (qs_set 2 sc_plus.nd (q_own (qn_rep (q_frz (qn_disp (qa_cons q_int qa_nil))) (q_max2 rfl z_max (qa_cons (q_len z_len (qa_cons (q_ix (q_var 0) q_int) qa_nil)) (qa_cons (q_len z_len (qa_cons (q_ix (q_var 1) q_int) qa_nil)) qa_nil))))))
    (qss_cons (qs_for PassesOwn.never rfl (qi_enum z_enumerate (qa_cons (q_ix (q_var 0) q_int) qa_nil)) (qg_tup rfl (qgs_cons (qg_name 3 sc_plus.nd) (gName_noEx 3) (qgs_cons (qg_name 4 sc_plus.nd) (gName_noEx 4) qgs_nil)))
    (qss_one (qs_asg (q_mulA (q_var 4) (q_ix (q_var 1) q_int)) (qg_sub (q_var 2) (q_var 3)))))
    (qss_cons (qs_for PassesOwn.never rfl (qi_enum z_enumerate (qa_cons (q_ix (q_var 1) q_int) qa_nil)) (qg_tup rfl (qgs_cons (qg_name 3 sc_plus.nd) (gName_noEx 3) (qgs_cons (qg_name 4 sc_plus.nd) (gName_noEx 4) qgs_nil)))
    (qss_one (qs_asg (q_addA (q_ix (q_var 2) (q_var 3)) (q_mulA (q_var 4) (q_ix (q_var 0) q_int))) (qg_sub (q_var 2) (q_var 3)))))
    (qss_one (qs_ret (q_calP k_over hr (by decide) (qa_cons (q_var 2) (qa_cons (q_mulA (q_ix (q_var 0) q_int) (q_ix (q_var 1) q_int)) qa_nil)))))))))⟩)
/-! times -/
abbrev s_times : Stmt := topS 13
theorem sc_times : FnScope [("p" : Str), ("other" : Str), ("found" : Str), ("k" : Str), ("top" : Str), ("j" : Str), ("more" : Str)] [("p" : Str), ("other" : Str)] (defScope s_times) := ⟨rfl, rfl, rfl, by decide +kernel, rfl, by decide +kernel, by decide +kernel⟩
theorem k_times {P : Program} {w : World} {K : PySem.W.Frag} {mg : Str → Option Value} {base : Heap} (z_enumerate : mg "enumerate" = none) (z_len : mg "len" = none) (k_over : Cal P w K mg base 2 "over" [("tops" : Str), ("bottom" : Str)] (spP K 2 m_over)) (D : DefIn K mg "times" s_times [("p" : Str), ("other" : Str)]) : Cal P w K mg base 3 "times" [("p" : Str), ("other" : Str)] (spP K 2 m_times) := by
  unfold m_times
  exact calP D sc_times (by decide) (fun f cdv A outer s H E hr => ⟨_, ((qss_cons (qs_set 2 sc_times.nd (q_own (qn_rep (q_frz (qn_disp (qa_cons q_int qa_nil))) (q_addA (q_len z_len (qa_cons (q_ix (q_var 0) q_int) qa_nil)) (q_len z_len (qa_cons (q_ix (q_var 1) q_int) qa_nil))))))
    (qss_cons (qs_for PassesOwn.never rfl (qi_enum z_enumerate (qa_cons (q_ix (q_var 0) q_int) qa_nil)) (qg_tup rfl (qgs_cons (qg_name 3 sc_times.nd) (gName_noEx 3) (qgs_cons (qg_name 4 sc_times.nd) (gName_noEx 4) qgs_nil)))
    (qss_one (qs_for PassesOwn.never rfl (qi_enum z_enumerate (qa_cons (q_ix (q_var 1) q_int) qa_nil)) (qg_tup rfl (qgs_cons (qg_name 5 sc_times.nd) (gName_noEx 5) (qgs_cons (qg_name 6 sc_times.nd) (gName_noEx 6) qgs_nil)))
    (qss_one (qs_asg (q_addA (q_ix (q_var 2) (q_addA (q_var 3) (q_var 5))) (q_mulA (q_var 4) (q_var 6))) (qg_sub (q_var 2) (q_addA (q_var 3) (q_var 5))))))))
    (qss_one (qs_ret (q_calP k_over hr (by decide) (qa_cons (q_var 2) (qa_cons (q_mulA (q_ix (q_var 0) q_int) (q_ix (q_var 1) q_int)) qa_nil))))))))⟩)
/-! power -/
abbrev s_power : Stmt := topS 14
theorem sc_power : FnScope [("p" : Str), ("k" : Str), ("found" : Str), ("turn" : Str)] [("p" : Str), ("k" : Str)] (defScope s_power) := ⟨rfl, rfl, rfl, by decide +kernel, rfl, by decide +kernel, by decide +kernel⟩
theorem k_power {P : Program} {w : World} {K : PySem.W.Frag} {mg : Str → Option Value} {base : Heap} (z_range : mg "range" = none) (k_times : Cal P w K mg base 3 "times" [("p" : Str), ("other" : Str)] (spP K 2 m_times)) (hC_ONE : ConIn K mg "ONE" c_ONE) (D : DefIn K mg "power" s_power [("p" : Str), ("k" : Str)]) : Cal P w K mg base 4 "power" [("p" : Str), ("k" : Str)] (spP K 2 m_power) := by
  obtain ⟨u_ONE, v_ONE, hm_ONE, hc_ONE⟩ := hC_ONE.ex
  unfold m_power
  exact calP D sc_power (by decide) (fun f cdv A outer s H E hr => ⟨_, ((qss_cons (qs_set 2 sc_power.nd (q_glob (by rfl) hm_ONE hc_ONE))
    (qss_cons (qs_for PassesOwn.never rfl (qi_r1 z_range (qa_cons (q_var 1) qa_nil)) (qg_name 3 sc_power.nd)
    (qss_one (qs_set 2 sc_power.nd (q_calP k_times hr (by decide) (qa_cons (q_var 2) (qa_cons (q_var 0) qa_nil))))))
    (qss_one (qs_ret (q_var 2))))))⟩)
/-! one_power -/
abbrev s_one_power : Stmt := topS 16
theorem sc_one_power : FnScope [("r" : Str), ("k" : Str)] [("r" : Str), ("k" : Str)] (defScope s_one_power) := ⟨rfl, rfl, rfl, by decide +kernel, rfl, by decide +kernel, by decide +kernel⟩
theorem k_one_power {P : Program} {w : World} {K : PySem.W.Frag} {mg : Str → Option Value} {base : Heap} (k_poly : Cal P w K mg base 3 "poly" [("some" : Str)] (spP K 1 m_poly)) (D : DefIn K mg "one_power" s_one_power [("r" : Str), ("k" : Str)]) : Cal P w K mg base 4 "one_power" [("r" : Str), ("k" : Str)] (spP K 2 m_one_power) := by
  unfold m_one_power
  exact calP D sc_one_power (by decide) (fun f cdv A outer s H E hr => ⟨_, ((qss_one (qs_ret (q_calP k_poly hr (by decide) (qa_cons (q_addA (q_mulA (q_frz (qn_disp (qa_cons (q_tup (qa_cons q_int (qa_cons q_int qa_nil))) qa_nil))) (q_var 1)) (q_frz (qn_disp (qa_cons (q_var 0) qa_nil)))) qa_nil)))))⟩)
/-! candidate -/
abbrev s_candidate : Stmt := topS 17
theorem sc_candidate : FnScope [("f" : Str), ("s" : Str), ("n" : Str), ("found" : Str), ("k" : Str), ("due" : Str), ("more" : Str)] [("f" : Str), ("s" : Str)] (defScope s_candidate) := ⟨rfl, rfl, rfl, by decide +kernel, rfl, by decide +kernel, by decide +kernel⟩
theorem k_candidate {P : Program} {w : World} {K : PySem.W.Frag} {mg : Str → Option Value} {base : Heap} (z_range : mg "range" = none) (k_plus : Cal P w K mg base 3 "plus" [("p" : Str), ("other" : Str)] (spP K 2 m_plus)) (k_one_power : Cal P w K mg base 4 "one_power" [("r" : Str), ("k" : Str)] (spP K 2 m_one_power)) (k_divided : Cal P w K mg base 3 "divided" [("one" : Str), ("other" : Str)] (spP K 2 m_divided)) (k_taken : Cal P w K mg base 3 "taken" [("one" : Str), ("other" : Str)] (spP K 2 m_taken)) (k_fraction_at : Cal P w K mg base 3 "fraction_at" [("p" : Str), ("k" : Str)] (spP K 2 m_fraction_at)) (k_power : Cal P w K mg base 4 "power" [("p" : Str), ("k" : Str)] (spP K 2 m_power)) (k_lead : Cal P w K mg base 4 "lead" [("p" : Str)] (spP K 1 m_lead)) (k_degree : Cal P w K mg base 1 "degree" [("p" : Str)] (spP K 1 m_degree)) (D : DefIn K mg "candidate" s_candidate [("f" : Str), ("s" : Str)]) : Cal P w K mg base 5 "candidate" [("f" : Str), ("s" : Str)] (spP K 2 m_candidate) := by
  unfold m_candidate
  exact calP D sc_candidate (by decide) (fun f cdv A outer s H E hr => ⟨_, ((qss_cons (qs_set 2 sc_candidate.nd (q_calP k_degree hr (by decide) (qa_cons (q_var 0) qa_nil)))
    (qss_cons (qs_set 3 sc_candidate.nd (q_calP k_one_power hr (by decide) (qa_cons (q_tup (qa_cons q_int (qa_cons q_int qa_nil))) (qa_cons (q_var 1) qa_nil))))
    (qss_cons (qs_for PassesOwn.never rfl (qi_r2 z_range (qa_cons q_int (qa_cons (q_var 1) qa_nil))) (qg_name 4 sc_candidate.nd)
    (qss_cons (qs_set 5 sc_candidate.nd (q_calP k_divided hr (by decide) (qa_cons (q_calP k_fraction_at hr (by decide) (qa_cons (q_var 0) (qa_cons (q_sub (q_var 2) (q_var 4)) qa_nil))) (qa_cons (q_calP k_lead hr (by decide) (qa_cons (q_var 0) qa_nil)) qa_nil))))
    (qss_cons (qs_set 6 sc_candidate.nd (q_calP k_taken hr (by decide) (qa_cons (q_var 5) (qa_cons (q_calP k_fraction_at hr (by decide) (qa_cons (q_calP k_power hr (by decide) (qa_cons (q_var 3) (qa_cons (q_div (q_var 2) (q_var 1)) qa_nil))) (qa_cons (q_sub (q_var 2) (q_var 4)) qa_nil))) qa_nil))))
    (qss_one (qs_set 3 sc_candidate.nd (q_calP k_plus hr (by decide) (qa_cons (q_var 3) (qa_cons (q_calP k_one_power hr (by decide) (qa_cons (q_calP k_divided hr (by decide) (qa_cons (q_var 6) (qa_cons (q_tup (qa_cons (q_div (q_var 2) (q_var 1)) (qa_cons q_int qa_nil))) qa_nil))) (qa_cons (q_sub (q_var 1) (q_var 4)) qa_nil))) qa_nil))))))))
    (qss_one (qs_ret (q_var 3)))))))⟩)
/-! _law_flow -/
abbrev s_L_flow : Stmt := topS 19
theorem sc_L_flow : FnScope [("_law_script" : Str)] [("_law_script" : Str)] (defScope s_L_flow) := ⟨rfl, rfl, rfl, by decide +kernel, rfl, by decide +kernel, by decide +kernel⟩
theorem k_L_flow {P : Program} {w : World} {K : PySem.W.Frag} {mg : Str → Option Value} {base : Heap} (z_list : mg "list" = none) (D : DefIn K mg "_law_flow" s_L_flow [("_law_script" : Str)]) : Cal P w K mg base 1 "_law_flow" [("_law_script" : Str)] (spFl K) := by
  exact calFl (b := b_L_flow) D sc_L_flow rfl (by decide) (fun ns => rfl) (fun f cdv A outer s H E hr => ⟨_, ((qss_one (qs_ret (q_own (qn_disp (qa_cons (q_frz (qn_list z_list (qa_cons (q_var 0) qa_nil))) (qa_cons q_int (qa_cons q_int (qa_cons q_int (qa_cons q_int qa_nil))))))))))⟩)
/-! _law_pick -/
abbrev s_L_pick : Stmt := topS 20
theorem sc_L_pick : FnScope [("_law_flow_here" : Str), ("_law_many" : Str), ("_law_cell" : Str), ("_law_digit" : Str)] [("_law_flow_here" : Str), ("_law_many" : Str)] (defScope s_L_pick) := ⟨rfl, rfl, rfl, by decide +kernel, rfl, by decide +kernel, by decide +kernel⟩
theorem k_L_pick {P : Program} {w : World} {K : PySem.W.Frag} {mg : Str → Option Value} {base : Heap} (z_len : mg "len" = none) (D : DefIn K mg "_law_pick" s_L_pick [("_law_flow_here" : Str), ("_law_many" : Str)]) : Cal P w K mg base 1 "_law_pick" [("_law_flow_here" : Str), ("_law_many" : Str)] (spF K 2 m_L_pick) := by
  unfold m_L_pick
  exact calF D sc_L_pick (by decide) (fun f cdv A outer s H E hr => ⟨_, ((qss_cons (qs_if (qt_w (qw_and (qt_eq hr (q_ix (q_var 0) q_int) q_int) (qw_and1 (qt_lt (q_ix (q_var 0) q_int) (q_len z_len (qa_cons (q_ix (q_var 0) q_int) qa_nil))))))
    (qss_cons (qs_set 2 sc_L_pick.nd (q_ix (q_ix (q_var 0) q_int) (q_ix (q_var 0) q_int)))
    (qss_cons (qs_asg (q_addA (q_ix (q_var 0) q_int) q_int) (qg_sub (q_var 0) q_int))
    (qss_one (qs_if (qt_ge (q_var 2) (q_pow q_int q_int))
    (qss_one (qs_asg (q_var 2) (qg_sub (q_var 0) q_int)))
    (qss_one (qs_asg (q_mod (q_addA (q_addA (q_mulA (q_ix (q_var 0) q_int) q_int) (q_mod (q_var 2) q_int)) q_int) q_int) (qg_sub (q_var 0) q_int)))))))
    qss_nil)
    (qss_cons (qs_if (qt_gt (q_ix (q_var 0) q_int) q_int)
    (qss_cons (qs_set 3 sc_L_pick.nd (q_mod (q_ix (q_var 0) q_int) (q_var 1)))
    (qss_cons (qs_asg (q_div (q_ix (q_var 0) q_int) (q_var 1)) (qg_sub (q_var 0) q_int))
    (qss_one (qs_ret (q_var 3)))))
    qss_nil)
    (qss_cons (qs_asg (q_addA (q_ix (q_var 0) q_int) q_int) (qg_sub (q_var 0) q_int))
    (qss_cons (qs_asg (q_mod (q_addA (q_addA (q_mulA (q_ix (q_var 0) q_int) q_int) q_int) (q_ix (q_var 0) q_int)) q_int) (qg_sub (q_var 0) q_int))
    (qss_one (qs_ret (q_mod (q_div (q_mod (q_mulA (q_addA (q_mod (q_ix (q_var 0) q_int) q_int) q_int) (q_addA (q_div (q_ix (q_var 0) q_int) q_int) q_int)) q_int) q_int) (q_var 1)))))))))⟩)
/-! _law_common -/
abbrev s_L_common : Stmt := topS 21
theorem sc_L_common : FnScope [("_law_a" : Str), ("_law_b" : Str)] [("_law_a" : Str), ("_law_b" : Str)] (defScope s_L_common) := ⟨rfl, rfl, rfl, by decide +kernel, rfl, by decide +kernel, by decide +kernel⟩
theorem k_L_common {P : Program} {w : World} {K : PySem.W.Frag} {mg : Str → Option Value} {base : Heap} (z_abs : mg "abs" = none) (D : DefIn K mg "_law_common" s_L_common [("_law_a" : Str), ("_law_b" : Str)]) : Cal P w K mg base 1 "_law_common" [("_law_a" : Str), ("_law_b" : Str)] (spP K 2 m_L_common) := by
  unfold m_L_common
  exact calP D sc_L_common (by decide) (fun f cdv A outer s H E hr => ⟨_, ((qss_cons (qs_while PassesOwn.never (qt_ne hr (q_var 1) q_int)
    (qss_one (qs_par 0 1 rfl sc_L_common.nd (qa_cons (q_var 1) (qa_cons (q_mod (q_var 0) (q_var 1)) qa_nil)))))
    (qss_one (qs_ret (q_abs z_abs (qa_cons (q_var 0) qa_nil))))))⟩)
/-! _law_fraction -/
abbrev s_L_fraction : Stmt := topS 22
theorem sc_L_fraction : FnScope [("_law_top" : Str), ("_law_bottom" : Str), ("_law_part" : Str)] [("_law_top" : Str), ("_law_bottom" : Str)] (defScope s_L_fraction) := ⟨rfl, rfl, rfl, by decide +kernel, rfl, by decide +kernel, by decide +kernel⟩
theorem k_L_fraction {P : Program} {w : World} {K : PySem.W.Frag} {mg : Str → Option Value} {base : Heap} (k_L_common : Cal P w K mg base 1 "_law_common" [("_law_a" : Str), ("_law_b" : Str)] (spP K 2 m_L_common)) (D : DefIn K mg "_law_fraction" s_L_fraction [("_law_top" : Str), ("_law_bottom" : Str)]) : Cal P w K mg base 2 "_law_fraction" [("_law_top" : Str), ("_law_bottom" : Str)] (spP K 2 m_L_fraction) := by
  unfold m_L_fraction
  exact calP D sc_L_fraction (by decide) (fun f cdv A outer s H E hr => ⟨_, ((qss_cons (qs_set 2 sc_L_fraction.nd (q_calP k_L_common hr (by decide) (qa_cons (q_var 0) (qa_cons (q_var 1) qa_nil))))
    (qss_cons (qs_if (qt_lt (q_var 1) q_int)
    (qss_one (qs_set 2 sc_L_fraction.nd (q_sub q_int (q_var 2))))
    qss_nil)
    (qss_one (qs_ret (q_tup (qa_cons (q_div (q_var 0) (q_var 2)) (qa_cons (q_div (q_var 1) (q_var 2)) qa_nil))))))))⟩)
/-! _law_poly -/
abbrev s_L_poly : Stmt := topS 23
theorem sc_L_poly : FnScope [("_law_tops" : Str), ("_law_bottom" : Str), ("_law_part" : Str), ("_law_top" : Str)] [("_law_tops" : Str), ("_law_bottom" : Str)] (defScope s_L_poly) := ⟨rfl, rfl, rfl, by decide +kernel, rfl, by decide +kernel, by decide +kernel⟩
theorem k_L_poly {P : Program} {w : World} {K : PySem.W.Frag} {mg : Str → Option Value} {base : Heap} (z_len : mg "len" = none) (z_list : mg "list" = none) (z_tuple : mg "tuple" = none) (k_L_common : Cal P w K mg base 1 "_law_common" [("_law_a" : Str), ("_law_b" : Str)] (spP K 2 m_L_common)) (D : DefIn K mg "_law_poly" s_L_poly [("_law_tops" : Str), ("_law_bottom" : Str)]) : Cal P w K mg base 2 "_law_poly" [("_law_tops" : Str), ("_law_bottom" : Str)] (spP K 2 m_L_poly) := by
  unfold m_L_poly
  exact calP D sc_L_poly (by decide) (fun f cdv A outer s H E hr => ⟨_, ((qss_cons (qs_set 0 sc_L_poly.nd (q_own (qn_list z_list (qa_cons (q_var 0) qa_nil))))
    (qss_cons (qs_while PassesOwn.never (qt_w (qw_and (qt_gt (q_len z_len (qa_cons (q_var 0) qa_nil)) q_int) (qw_and1 (qt_eq hr (q_ix (q_var 0) (q_neg 1)) q_int))))
    (qss_one (qs_expr (q_pop (q_var 0)))))
    (qss_cons (qs_set 2 sc_L_poly.nd (q_var 1))
    (qss_cons (qs_for PassesOwn.never rfl (qi_any (q_var 0)) (qg_name 3 sc_L_poly.nd)
    (qss_one (qs_set 2 sc_L_poly.nd (q_calP k_L_common hr (by decide) (qa_cons (q_var 2) (qa_cons (q_var 3) qa_nil))))))
    (qss_one (qs_ret (q_tup (qa_cons (q_tuple z_tuple (qa_cons (q_frz (qn_lc (g := (gName 3)) (tt := tYes) (te := (tOp rDivI (tVar 3) (tVar 2))) (gm := (gNameM 3)) (cm := bYes) (em := (eOp fDiv (eVar 3) (eVar 2))) (ws := [3]) [(("_law_top" : Str), 3)] rfl sc_L_poly.nd (qi_any (q_var 0)) rfl rfl (by kernel_rfl) (fun _ _ _ _ _ => (qg_name 3 sc_L_poly.nd)) (fun _ _ _ _ _ => qts_nil) (fun _ _ _ _ _ => (q_div (q_var 3) (q_var 2))) (by decide))) qa_nil)) (qa_cons (q_div (q_var 1) (q_var 2)) qa_nil))))))))))⟩)
/-! _law_sum -/
abbrev s_L_sum : Stmt := topS 24
theorem sc_L_sum : FnScope [("_law_p" : Str), ("_law_q" : Str), ("_law_many" : Str), ("_law_found" : Str), ("_law_k" : Str), ("_law_top" : Str)] [("_law_p" : Str), ("_law_q" : Str)] (defScope s_L_sum) := ⟨rfl, rfl, rfl, by decide +kernel, rfl, by decide +kernel, by decide +kernel⟩
theorem k_L_sum {P : Program} {w : World} {K : PySem.W.Frag} {mg : Str → Option Value} {base : Heap} (z_enumerate : mg "enumerate" = none) (z_len : mg "len" = none) (z_max : mg "max" = none) (k_L_poly : Cal P w K mg base 2 "_law_poly" [("_law_tops" : Str), ("_law_bottom" : Str)] (spP K 2 m_L_poly)) (D : DefIn K mg "_law_sum" s_L_sum [("_law_p" : Str), ("_law_q" : Str)]) : Cal P w K mg base 3 "_law_sum" [("_law_p" : Str), ("_law_q" : Str)] (spP K 2 m_L_sum) := by
  unfold m_L_sum
  exact calP D sc_L_sum (by decide) (fun f cdv A outer s H E hr => ⟨_, ((qss_cons (qs_set 2 sc_L_sum.nd (q_max2 rfl z_max (qa_cons (q_len z_len (qa_cons (q_ix (q_var 0) q_int) qa_nil)) (qa_cons (q_len z_len (qa_cons (q_ix (q_var 1) q_int) qa_nil)) qa_nil))))
    (qss_cons (qs_set 3 sc_L_sum.nd (q_own (qn_rep (q_frz (qn_disp (qa_cons q_int qa_nil))) (q_var 2))))
    (qss_cons (qs_for PassesOwn.never rfl (qi_enum z_enumerate (qa_cons (q_ix (q_var 0) q_int) qa_nil)) (qg_tup rfl (qgs_cons (qg_name 4 sc_L_sum.nd) (gName_noEx 4) (qgs_cons (qg_name 5 sc_L_sum.nd) (gName_noEx 5) qgs_nil)))
    (qss_one (qs_asg (q_addA (q_ix (q_var 3) (q_var 4)) (q_mulA (q_var 5) (q_ix (q_var 1) q_int))) (qg_sub (q_var 3) (q_var 4)))))
    (qss_cons (qs_for PassesOwn.never rfl (qi_enum z_enumerate (qa_cons (q_ix (q_var 1) q_int) qa_nil)) (qg_tup rfl (qgs_cons (qg_name 4 sc_L_sum.nd) (gName_noEx 4) (qgs_cons (qg_name 5 sc_L_sum.nd) (gName_noEx 5) qgs_nil)))
    (qss_one (qs_asg (q_addA (q_ix (q_var 3) (q_var 4)) (q_mulA (q_var 5) (q_ix (q_var 0) q_int))) (qg_sub (q_var 3) (q_var 4)))))
    (qss_one (qs_ret (q_calP k_L_poly hr (by decide) (qa_cons (q_var 3) (qa_cons (q_mulA (q_ix (q_var 0) q_int) (q_ix (q_var 1) q_int)) qa_nil))))))))))⟩)
/-! _law_times -/
abbrev s_L_times : Stmt := topS 25
theorem sc_L_times : FnScope [("_law_p" : Str), ("_law_q" : Str), ("_law_found" : Str), ("_law_k" : Str), ("_law_top" : Str), ("_law_j" : Str), ("_law_other" : Str)] [("_law_p" : Str), ("_law_q" : Str)] (defScope s_L_times) := ⟨rfl, rfl, rfl, by decide +kernel, rfl, by decide +kernel, by decide +kernel⟩
theorem k_L_times {P : Program} {w : World} {K : PySem.W.Frag} {mg : Str → Option Value} {base : Heap} (z_enumerate : mg "enumerate" = none) (z_len : mg "len" = none) (k_L_poly : Cal P w K mg base 2 "_law_poly" [("_law_tops" : Str), ("_law_bottom" : Str)] (spP K 2 m_L_poly)) (D : DefIn K mg "_law_times" s_L_times [("_law_p" : Str), ("_law_q" : Str)]) : Cal P w K mg base 3 "_law_times" [("_law_p" : Str), ("_law_q" : Str)] (spP K 2 m_L_times) := by
  unfold m_L_times
  exact calP D sc_L_times (by decide) (fun f cdv A outer s H E hr => ⟨_, ((qss_cons (qs_set 2 sc_L_times.nd (q_own (qn_rep (q_frz (qn_disp (qa_cons q_int qa_nil))) (q_addA (q_len z_len (qa_cons (q_ix (q_var 0) q_int) qa_nil)) (q_len z_len (qa_cons (q_ix (q_var 1) q_int) qa_nil))))))
    (qss_cons (qs_for PassesOwn.never rfl (qi_enum z_enumerate (qa_cons (q_ix (q_var 0) q_int) qa_nil)) (qg_tup rfl (qgs_cons (qg_name 3 sc_L_times.nd) (gName_noEx 3) (qgs_cons (qg_name 4 sc_L_times.nd) (gName_noEx 4) qgs_nil)))
    (qss_one (qs_for PassesOwn.never rfl (qi_enum z_enumerate (qa_cons (q_ix (q_var 1) q_int) qa_nil)) (qg_tup rfl (qgs_cons (qg_name 5 sc_L_times.nd) (gName_noEx 5) (qgs_cons (qg_name 6 sc_L_times.nd) (gName_noEx 6) qgs_nil)))
    (qss_one (qs_asg (q_addA (q_ix (q_var 2) (q_addA (q_var 3) (q_var 5))) (q_mulA (q_var 4) (q_var 6))) (qg_sub (q_var 2) (q_addA (q_var 3) (q_var 5))))))))
    (qss_one (qs_ret (q_calP k_L_poly hr (by decide) (qa_cons (q_var 2) (qa_cons (q_mulA (q_ix (q_var 0) q_int) (q_ix (q_var 1) q_int)) qa_nil))))))))⟩)
/-! _law_of -/
abbrev s_L_of : Stmt := topS 26
theorem sc_L_of : FnScope [("_law_p" : Str), ("_law_q" : Str), ("_law_found" : Str), ("_law_top" : Str)] [("_law_p" : Str), ("_law_q" : Str)] (defScope s_L_of) := ⟨rfl, rfl, rfl, by decide +kernel, rfl, by decide +kernel, by decide +kernel⟩
theorem k_L_of {P : Program} {w : World} {K : PySem.W.Frag} {mg : Str → Option Value} {base : Heap} (z_reversed : mg "reversed" = none) (k_L_sum : Cal P w K mg base 3 "_law_sum" [("_law_p" : Str), ("_law_q" : Str)] (spP K 2 m_L_sum)) (k_L_poly : Cal P w K mg base 2 "_law_poly" [("_law_tops" : Str), ("_law_bottom" : Str)] (spP K 2 m_L_poly)) (k_L_times : Cal P w K mg base 3 "_law_times" [("_law_p" : Str), ("_law_q" : Str)] (spP K 2 m_L_times)) (D : DefIn K mg "_law_of" s_L_of [("_law_p" : Str), ("_law_q" : Str)]) : Cal P w K mg base 4 "_law_of" [("_law_p" : Str), ("_law_q" : Str)] (spP K 2 m_L_of) := by
  unfold m_L_of
  exact calP D sc_L_of (by decide) (fun f cdv A outer s H E hr => ⟨_, ((qss_cons (qs_set 2 sc_L_of.nd (q_tup (qa_cons (q_tup qa_nil) (qa_cons q_int qa_nil))))
    (qss_cons (qs_for PassesOwn.never rfl (qi_rev z_reversed (q_ix (q_var 0) q_int)) (qg_name 3 sc_L_of.nd)
    (qss_one (qs_set 2 sc_L_of.nd (q_calP k_L_sum hr (by decide) (qa_cons (q_calP k_L_times hr (by decide) (qa_cons (q_var 2) (qa_cons (q_var 1) qa_nil))) (qa_cons (q_calP k_L_poly hr (by decide) (qa_cons (q_frz (qn_disp (qa_cons (q_var 3) qa_nil))) (qa_cons (q_ix (q_var 0) q_int) qa_nil))) qa_nil))))))
    (qss_one (qs_ret (q_var 2))))))⟩)
/-! _law_straight -/
abbrev s_L_straight : Stmt := topS 27
theorem sc_L_straight : FnScope [("_law_a" : Str), ("_law_b" : Str)] [("_law_a" : Str), ("_law_b" : Str)] (defScope s_L_straight) := ⟨rfl, rfl, rfl, by decide +kernel, rfl, by decide +kernel, by decide +kernel⟩
theorem k_L_straight {P : Program} {w : World} {K : PySem.W.Frag} {mg : Str → Option Value} {base : Heap} (k_L_poly : Cal P w K mg base 2 "_law_poly" [("_law_tops" : Str), ("_law_bottom" : Str)] (spP K 2 m_L_poly)) (D : DefIn K mg "_law_straight" s_L_straight [("_law_a" : Str), ("_law_b" : Str)]) : Cal P w K mg base 3 "_law_straight" [("_law_a" : Str), ("_law_b" : Str)] (spP K 2 m_L_straight) := by
  unfold m_L_straight
  exact calP D sc_L_straight (by decide) (fun f cdv A outer s H E hr => ⟨_, ((qss_one (qs_ret (q_calP k_L_poly hr (by decide) (qa_cons (q_frz (qn_disp (qa_cons (q_mulA (q_ix (q_var 1) q_int) (q_ix (q_var 0) q_int)) (qa_cons (q_mulA (q_ix (q_var 0) q_int) (q_ix (q_var 1) q_int)) qa_nil)))) (qa_cons (q_mulA (q_ix (q_var 0) q_int) (q_ix (q_var 1) q_int)) qa_nil))))))⟩)
/-! _law_number -/
abbrev s_L_number : Stmt := topS 28
theorem sc_L_number : FnScope [("_law_flow_here" : Str), ("_law_most" : Str)] [("_law_flow_here" : Str), ("_law_most" : Str)] (defScope s_L_number) := ⟨rfl, rfl, rfl, by decide +kernel, rfl, by decide +kernel, by decide +kernel⟩
theorem k_L_number {P : Program} {w : World} {K : PySem.W.Frag} {mg : Str → Option Value} {base : Heap} (k_L_pick : Cal P w K mg base 1 "_law_pick" [("_law_flow_here" : Str), ("_law_many" : Str)] (spF K 2 m_L_pick)) (D : DefIn K mg "_law_number" s_L_number [("_law_flow_here" : Str), ("_law_most" : Str)]) : Cal P w K mg base 2 "_law_number" [("_law_flow_here" : Str), ("_law_most" : Str)] (spF K 2 m_L_number) := by
  unfold m_L_number
  exact calF D sc_L_number (by decide) (fun f cdv A outer s H E hr => ⟨_, ((qss_one (qs_ret (q_sub (q_calF k_L_pick hr (by decide) (qa_cons (q_var 0) (qa_cons (q_addA (q_mulA q_int (q_var 1)) q_int) qa_nil))) (q_var 1)))))⟩)
/-! _law_any_fraction -/
abbrev s_L_any_fraction : Stmt := topS 29
theorem sc_L_any_fraction : FnScope [("_law_flow_here" : Str), ("_law_most" : Str)] [("_law_flow_here" : Str), ("_law_most" : Str)] (defScope s_L_any_fraction) := ⟨rfl, rfl, rfl, by decide +kernel, rfl, by decide +kernel, by decide +kernel⟩
theorem k_L_any_fraction {P : Program} {w : World} {K : PySem.W.Frag} {mg : Str → Option Value} {base : Heap} (k_L_fraction : Cal P w K mg base 2 "_law_fraction" [("_law_top" : Str), ("_law_bottom" : Str)] (spP K 2 m_L_fraction)) (k_L_pick : Cal P w K mg base 1 "_law_pick" [("_law_flow_here" : Str), ("_law_many" : Str)] (spF K 2 m_L_pick)) (k_L_number : Cal P w K mg base 2 "_law_number" [("_law_flow_here" : Str), ("_law_most" : Str)] (spF K 2 m_L_number)) (D : DefIn K mg "_law_any_fraction" s_L_any_fraction [("_law_flow_here" : Str), ("_law_most" : Str)]) : Cal P w K mg base 3 "_law_any_fraction" [("_law_flow_here" : Str), ("_law_most" : Str)] (spF K 2 m_L_any_fraction) := by
  unfold m_L_any_fraction
  exact calF D sc_L_any_fraction (by decide) (fun f cdv A outer s H E hr => ⟨_, ((qss_one (qs_ret (q_calP k_L_fraction hr (by decide) (qa_cons (q_calF k_L_number hr (by decide) (qa_cons (q_var 0) (qa_cons (q_var 1) qa_nil))) (qa_cons (q_addA q_int (q_calF k_L_pick hr (by decide) (qa_cons (q_var 0) (qa_cons (q_ix (q_frz (qn_disp (qa_cons q_int (qa_cons q_int (qa_cons q_int (qa_cons (q_var 1) qa_nil)))))) (q_calF k_L_pick hr (by decide) (qa_cons (q_var 0) (qa_cons q_int qa_nil)))) qa_nil)))) qa_nil))))))⟩)
/-! _law_any_poly -/
abbrev s_L_any_poly : Stmt := topS 30
theorem sc_L_any_poly : FnScope [("_law_flow_here" : Str), ("_law_many" : Str), ("_law_most" : Str), ("_law_tops" : Str), ("_law_first" : Str), ("_law_k" : Str)] [("_law_flow_here" : Str), ("_law_many" : Str), ("_law_most" : Str)] (defScope s_L_any_poly) := ⟨rfl, rfl, rfl, by decide +kernel, rfl, by decide +kernel, by decide +kernel⟩
theorem k_L_any_poly {P : Program} {w : World} {K : PySem.W.Frag} {mg : Str → Option Value} {base : Heap} (z_int : mg "int" = none) (z_range : mg "range" = none) (k_L_poly : Cal P w K mg base 2 "_law_poly" [("_law_tops" : Str), ("_law_bottom" : Str)] (spP K 2 m_L_poly)) (k_L_pick : Cal P w K mg base 1 "_law_pick" [("_law_flow_here" : Str), ("_law_many" : Str)] (spF K 2 m_L_pick)) (k_L_number : Cal P w K mg base 2 "_law_number" [("_law_flow_here" : Str), ("_law_most" : Str)] (spF K 2 m_L_number)) (D : DefIn K mg "_law_any_poly" s_L_any_poly [("_law_flow_here" : Str), ("_law_many" : Str), ("_law_most" : Str)]) : Cal P w K mg base 3 "_law_any_poly" [("_law_flow_here" : Str), ("_law_many" : Str), ("_law_most" : Str)] (spF K 3 m_L_any_poly) := by
  unfold m_L_any_poly
  exact calF D sc_L_any_poly (by decide) (fun f cdv A outer s H E hr => ⟨_, ((qss_cons (qs_setLc (g := (gName 5)) (tt := tYes) (te := (tOp rMulA (tCall (spF K 2 m_L_number) [] E0 (tCons (tVar 0) (tCons (tVar 2) tNil))) (tCB rIntA (tCons (tOp rGtI (tCall (spF K 2 m_L_pick) [] E0 (tCons (tVar 0) (tCons (tC (.int 4)) tNil))) (tC (.int 0))) tNil)))) (gm := (gNameM 5)) (cm := bYes) (em := (eOp fMulA (eCallF 2 m_L_number (aCons (eVar 0) (aCons (eVar 2) aNil))) (eCB cInt (aCons (eOp fGt (eCallF 2 m_L_pick (aCons (eVar 0) (aCons (eC (.int 4)) aNil))) (eC (.int 0))) aNil)))) (ws := [5]) 3 [(("_law_k" : Str), 5)] true rfl sc_L_any_poly.nd (sw_true rfl rfl rfl (by decide +kernel)) (qi_r1 z_range (qa_cons (q_var 1) qa_nil)) rfl rfl (by kernel_rfl) (fun _ _ _ _ _ => (qg_name 5 sc_L_any_poly.nd)) (fun _ _ _ _ _ => qts_nil) (fun _ _ _ _ _ => (q_mulA (q_calF k_L_number hr (by decide) (qa_cons (q_var 0) (qa_cons (q_var 2) qa_nil))) (q_intc z_int (qa_cons (q_gt (q_calF k_L_pick hr (by decide) (qa_cons (q_var 0) (qa_cons q_int qa_nil))) q_int) qa_nil)))) (by decide))
    (qss_cons (qs_set 4 sc_L_any_poly.nd (q_ix (q_frz (qn_disp (qa_cons q_int (qa_cons (q_sub q_int q_int) (qa_cons (q_addA q_int (q_calF k_L_pick hr (by decide) (qa_cons (q_var 0) (qa_cons (q_var 2) qa_nil)))) (qa_cons (q_sub (q_sub q_int q_int) (q_calF k_L_pick hr (by decide) (qa_cons (q_var 0) (qa_cons (q_var 2) qa_nil)))) qa_nil)))))) (q_calF k_L_pick hr (by decide) (qa_cons (q_var 0) (qa_cons q_int qa_nil)))))
    (qss_one (qs_ret (q_calP k_L_poly hr (by decide) (qa_cons (q_addA (q_var 3) (q_frz (qn_disp (qa_cons (q_var 4) qa_nil)))) (qa_cons (q_addA q_int (q_calF k_L_pick hr (by decide) (qa_cons (q_var 0) (qa_cons (q_ix (q_frz (qn_disp (qa_cons q_int (qa_cons q_int (qa_cons q_int (qa_cons q_int qa_nil)))))) (q_calF k_L_pick hr (by decide) (qa_cons (q_var 0) (qa_cons q_int qa_nil)))) qa_nil)))) qa_nil))))))))⟩)
/-! _law_neat_poly -/
abbrev s_L_neat_poly : Stmt := topS 31
theorem sc_L_neat_poly : FnScope [("_law_flow_here" : Str), ("_law_many" : Str), ("_law_most" : Str), ("_law_bottom" : Str), ("_law_tops" : Str), ("_law_k" : Str)] [("_law_flow_here" : Str), ("_law_many" : Str), ("_law_most" : Str)] (defScope s_L_neat_poly) := ⟨rfl, rfl, rfl, by decide +kernel, rfl, by decide +kernel, by decide +kernel⟩
theorem k_L_neat_poly {P : Program} {w : World} {K : PySem.W.Frag} {mg : Str → Option Value} {base : Heap} (z_int : mg "int" = none) (z_range : mg "range" = none) (k_L_poly : Cal P w K mg base 2 "_law_poly" [("_law_tops" : Str), ("_law_bottom" : Str)] (spP K 2 m_L_poly)) (k_L_number : Cal P w K mg base 2 "_law_number" [("_law_flow_here" : Str), ("_law_most" : Str)] (spF K 2 m_L_number)) (k_L_pick : Cal P w K mg base 1 "_law_pick" [("_law_flow_here" : Str), ("_law_many" : Str)] (spF K 2 m_L_pick)) (D : DefIn K mg "_law_neat_poly" s_L_neat_poly [("_law_flow_here" : Str), ("_law_many" : Str), ("_law_most" : Str)]) : Cal P w K mg base 3 "_law_neat_poly" [("_law_flow_here" : Str), ("_law_many" : Str), ("_law_most" : Str)] (spF K 3 m_L_neat_poly) := by
  unfold m_L_neat_poly
  exact calF D sc_L_neat_poly (by decide) (fun f cdv A outer s H E hr => ⟨_, ((qss_cons (qs_set 3 sc_L_neat_poly.nd (q_addA q_int (q_calF k_L_pick hr (by decide) (qa_cons (q_var 0) (qa_cons (q_ix (q_frz (qn_disp (qa_cons q_int (qa_cons q_int (qa_cons q_int (qa_cons q_int qa_nil)))))) (q_calF k_L_pick hr (by decide) (qa_cons (q_var 0) (qa_cons q_int qa_nil)))) qa_nil)))))
    (qss_cons (qs_setLc (g := (gName 5)) (tt := tYes) (te := (tOp rMulA (tCall (spF K 2 m_L_number) [] E0 (tCons (tVar 0) (tCons (tVar 2) tNil))) (tCB rIntA (tCons (tOp rGtI (tCall (spF K 2 m_L_pick) [] E0 (tCons (tVar 0) (tCons (tC (.int 4)) tNil))) (tC (.int 0))) tNil)))) (gm := (gNameM 5)) (cm := bYes) (em := (eOp fMulA (eCallF 2 m_L_number (aCons (eVar 0) (aCons (eVar 2) aNil))) (eCB cInt (aCons (eOp fGt (eCallF 2 m_L_pick (aCons (eVar 0) (aCons (eC (.int 4)) aNil))) (eC (.int 0))) aNil)))) (ws := [5]) 4 [(("_law_k" : Str), 5)] true rfl sc_L_neat_poly.nd (sw_true rfl rfl rfl (by decide +kernel)) (qi_r1 z_range (qa_cons (q_sub (q_var 1) q_int) qa_nil)) rfl rfl (by kernel_rfl) (fun _ _ _ _ _ => (qg_name 5 sc_L_neat_poly.nd)) (fun _ _ _ _ _ => qts_nil) (fun _ _ _ _ _ => (q_mulA (q_calF k_L_number hr (by decide) (qa_cons (q_var 0) (qa_cons (q_var 2) qa_nil))) (q_intc z_int (qa_cons (q_gt (q_calF k_L_pick hr (by decide) (qa_cons (q_var 0) (qa_cons q_int qa_nil))) q_int) qa_nil)))) (by decide))
    (qss_one (qs_ret (q_calP k_L_poly hr (by decide) (qa_cons (q_addA (q_addA (q_frz (qn_disp (qa_cons q_int qa_nil))) (q_var 4)) (q_frz (qn_disp (qa_cons (q_var 3) qa_nil)))) (qa_cons (q_var 3) qa_nil))))))))⟩)
/-! _law_any_straight -/
abbrev s_L_any_straight : Stmt := topS 32
theorem sc_L_any_straight : FnScope [("_law_flow_here" : Str), ("_law_most" : Str), ("_law_first" : Str)] [("_law_flow_here" : Str), ("_law_most" : Str)] (defScope s_L_any_straight) := ⟨rfl, rfl, rfl, by decide +kernel, rfl, by decide +kernel, by decide +kernel⟩
theorem k_L_any_straight {P : Program} {w : World} {K : PySem.W.Frag} {mg : Str → Option Value} {base : Heap} (k_L_straight : Cal P w K mg base 3 "_law_straight" [("_law_a" : Str), ("_law_b" : Str)] (spP K 2 m_L_straight)) (k_L_any_fraction : Cal P w K mg base 3 "_law_any_fraction" [("_law_flow_here" : Str), ("_law_most" : Str)] (spF K 2 m_L_any_fraction)) (k_L_fraction : Cal P w K mg base 2 "_law_fraction" [("_law_top" : Str), ("_law_bottom" : Str)] (spP K 2 m_L_fraction)) (k_L_pick : Cal P w K mg base 1 "_law_pick" [("_law_flow_here" : Str), ("_law_many" : Str)] (spF K 2 m_L_pick)) (D : DefIn K mg "_law_any_straight" s_L_any_straight [("_law_flow_here" : Str), ("_law_most" : Str)]) : Cal P w K mg base 4 "_law_any_straight" [("_law_flow_here" : Str), ("_law_most" : Str)] (spF K 2 m_L_any_straight) := by
  unfold m_L_any_straight
  exact calF D sc_L_any_straight (by decide) (fun f cdv A outer s H E hr => ⟨_, ((qss_cons (qs_set 2 sc_L_any_straight.nd (q_ix (q_frz (qn_disp (qa_cons (q_tup (qa_cons q_int (qa_cons q_int qa_nil))) (qa_cons (q_tup (qa_cons (q_sub q_int q_int) (qa_cons q_int qa_nil))) (qa_cons (q_calP k_L_fraction hr (by decide) (qa_cons (q_addA q_int (q_calF k_L_pick hr (by decide) (qa_cons (q_var 0) (qa_cons (q_var 1) qa_nil)))) (qa_cons (q_addA q_int (q_calF k_L_pick hr (by decide) (qa_cons (q_var 0) (qa_cons q_int qa_nil)))) qa_nil))) qa_nil))))) (q_calF k_L_pick hr (by decide) (qa_cons (q_var 0) (qa_cons q_int qa_nil)))))
    (qss_one (qs_ret (q_calP k_L_straight hr (by decide) (qa_cons (q_var 2) (qa_cons (q_calF k_L_any_fraction hr (by decide) (qa_cons (q_var 0) (qa_cons (q_var 1) qa_nil))) qa_nil)))))))⟩)
/-! _law_turning -/
abbrev s_L_turning : Stmt := topS 33
theorem sc_L_turning : FnScope [("_law_n" : Str), ("_law_a" : Str), ("_law_found" : Str), ("_law_k" : Str), ("_law_less" : Str)] [("_law_n" : Str), ("_law_a" : Str)] (defScope s_L_turning) := ⟨rfl, rfl, rfl, by decide +kernel, rfl, by decide +kernel, by decide +kernel⟩
theorem k_L_turning {P : Program} {w : World} {K : PySem.W.Frag} {mg : Str → Option Value} {base : Heap} (z_range : mg "range" = none) (k_L_sum : Cal P w K mg base 3 "_law_sum" [("_law_p" : Str), ("_law_q" : Str)] (spP K 2 m_L_sum)) (k_L_times : Cal P w K mg base 3 "_law_times" [("_law_p" : Str), ("_law_q" : Str)] (spP K 2 m_L_times)) (k_L_poly : Cal P w K mg base 2 "_law_poly" [("_law_tops" : Str), ("_law_bottom" : Str)] (spP K 2 m_L_poly)) (D : DefIn K mg "_law_turning" s_L_turning [("_law_n" : Str), ("_law_a" : Str)]) : Cal P w K mg base 4 "_law_turning" [("_law_n" : Str), ("_law_a" : Str)] (spP K 2 m_L_turning) := by
  unfold m_L_turning
  exact calP D sc_L_turning (by decide) (fun f cdv A outer s H E hr => ⟨_, ((qss_cons (qs_set 2 sc_L_turning.nd (q_own (qn_disp (qa_cons (q_tup (qa_cons (q_tup (qa_cons q_int qa_nil)) (qa_cons q_int qa_nil))) (qa_cons (q_tup (qa_cons (q_tup (qa_cons q_int (qa_cons q_int qa_nil))) (qa_cons q_int qa_nil))) qa_nil)))))
    (qss_cons (qs_for PassesOwn.never rfl (qi_r1 z_range (qa_cons (q_sub (q_var 0) q_int) qa_nil)) (qg_name 3 sc_L_turning.nd)
    (qss_cons (qs_set 4 sc_L_turning.nd (q_calP k_L_times hr (by decide) (qa_cons (q_ix (q_var 2) (q_neg 2)) (qa_cons (q_calP k_L_poly hr (by decide) (qa_cons (q_frz (qn_disp (qa_cons (q_sub q_int (q_ix (q_var 1) q_int)) qa_nil))) (qa_cons (q_ix (q_var 1) q_int) qa_nil))) qa_nil))))
    (qss_one (qs_expr (q_append (q_var 2) (qa_cons (q_calP k_L_sum hr (by decide) (qa_cons (q_calP k_L_times hr (by decide) (qa_cons (q_tup (qa_cons (q_tup (qa_cons q_int (qa_cons q_int qa_nil))) (qa_cons q_int qa_nil))) (qa_cons (q_ix (q_var 2) (q_neg 1)) qa_nil))) (qa_cons (q_var 4) qa_nil))) qa_nil))))))
    (qss_one (qs_ret (q_ix (q_var 2) (q_var 0)))))))⟩)
/-! _law_together -/
abbrev s_L_together : Stmt := topS 34
theorem sc_L_together : FnScope [("_law_chain" : Str), ("_law_found" : Str), ("_law_layer" : Str)] [("_law_chain" : Str)] (defScope s_L_together) := ⟨rfl, rfl, rfl, by decide +kernel, rfl, by decide +kernel, by decide +kernel⟩
theorem k_L_together {P : Program} {w : World} {K : PySem.W.Frag} {mg : Str → Option Value} {base : Heap} (z_reversed : mg "reversed" = none) (k_L_of : Cal P w K mg base 4 "_law_of" [("_law_p" : Str), ("_law_q" : Str)] (spP K 2 m_L_of)) (D : DefIn K mg "_law_together" s_L_together [("_law_chain" : Str)]) : Cal P w K mg base 5 "_law_together" [("_law_chain" : Str)] (spP K 1 m_L_together) := by
  unfold m_L_together
  exact calP D sc_L_together (by decide) (fun f cdv A outer s H E hr => ⟨_, ((qss_cons (qs_set 1 sc_L_together.nd (q_ix (q_var 0) (q_neg 1)))
    (qss_cons (qs_for PassesOwn.never rfl (qi_rev z_reversed (q_slA (q_var 0) qo_none (qo_some (q_neg 1)))) (qg_name 2 sc_L_together.nd)
    (qss_one (qs_set 1 sc_L_together.nd (q_calP k_L_of hr (by decide) (qa_cons (q_var 2) (qa_cons (q_var 1) qa_nil))))))
    (qss_one (qs_ret (q_var 1))))))⟩)
/-! _law_power -/
abbrev s_L_power : Stmt := topS 35
theorem sc_L_power : FnScope [("_law_p" : Str), ("_law_k" : Str), ("_law_found" : Str), ("_law_turn" : Str)] [("_law_p" : Str), ("_law_k" : Str)] (defScope s_L_power) := ⟨rfl, rfl, rfl, by decide +kernel, rfl, by decide +kernel, by decide +kernel⟩
theorem k_L_power {P : Program} {w : World} {K : PySem.W.Frag} {mg : Str → Option Value} {base : Heap} (z_range : mg "range" = none) (k_L_times : Cal P w K mg base 3 "_law_times" [("_law_p" : Str), ("_law_q" : Str)] (spP K 2 m_L_times)) (D : DefIn K mg "_law_power" s_L_power [("_law_p" : Str), ("_law_k" : Str)]) : Cal P w K mg base 4 "_law_power" [("_law_p" : Str), ("_law_k" : Str)] (spP K 2 m_L_power) := by
  unfold m_L_power
  exact calP D sc_L_power (by decide) (fun f cdv A outer s H E hr => ⟨_, ((qss_cons (qs_set 2 sc_L_power.nd (q_tup (qa_cons (q_tup (qa_cons q_int qa_nil)) (qa_cons q_int qa_nil))))
    (qss_cons (qs_for PassesOwn.never rfl (qi_r1 z_range (qa_cons (q_var 1) qa_nil)) (qg_name 3 sc_L_power.nd)
    (qss_one (qs_set 2 sc_L_power.nd (q_calP k_L_times hr (by decide) (qa_cons (q_var 2) (qa_cons (q_var 0) qa_nil))))))
    (qss_one (qs_ret (q_var 2))))))⟩)
/-! _law_at -/
abbrev s_L_at : Stmt := topS 36
theorem sc_L_at : FnScope [("_law_p" : Str), ("_law_k" : Str)] [("_law_p" : Str), ("_law_k" : Str)] (defScope s_L_at) := ⟨rfl, rfl, rfl, by decide +kernel, rfl, by decide +kernel, by decide +kernel⟩
theorem k_L_at {P : Program} {w : World} {K : PySem.W.Frag} {mg : Str → Option Value} {base : Heap} (z_len : mg "len" = none) (k_L_fraction : Cal P w K mg base 2 "_law_fraction" [("_law_top" : Str), ("_law_bottom" : Str)] (spP K 2 m_L_fraction)) (D : DefIn K mg "_law_at" s_L_at [("_law_p" : Str), ("_law_k" : Str)]) : Cal P w K mg base 3 "_law_at" [("_law_p" : Str), ("_law_k" : Str)] (spP K 2 m_L_at_2) := by
  unfold m_L_at_2
  exact calP D sc_L_at (by decide) (fun f cdv A outer s H E hr => ⟨_, ((qss_cons (qs_if (qt_ge (q_var 1) (q_len z_len (qa_cons (q_ix (q_var 0) q_int) qa_nil)))
    (qss_one (qs_ret (q_tup (qa_cons q_int (qa_cons q_int qa_nil)))))
    qss_nil)
    (qss_one (qs_ret (q_calP k_L_fraction hr (by decide) (qa_cons (q_ix (q_ix (q_var 0) q_int) (q_var 1)) (qa_cons (q_ix (q_var 0) q_int) qa_nil)))))))⟩)
/-! _law_within -/
abbrev s_L_within : Stmt := topS 37
theorem sc_L_within : FnScope [("_law_p" : Str), ("_law_top" : Str)] [("_law_p" : Str)] (defScope s_L_within) := ⟨rfl, rfl, rfl, by decide +kernel, rfl, by decide +kernel, by decide +kernel⟩
theorem k_L_within {P : Program} {w : World} {K : PySem.W.Frag} {mg : Str → Option Value} {base : Heap} (z_abs : mg "abs" = none) (z_all : mg "all" = none) (D : DefIn K mg "_law_within" s_L_within [("_law_p" : Str)]) : Cal P w K mg base 1 "_law_within" [("_law_p" : Str)] (spP K 1 m_L_within) := by
  unfold m_L_within
  exact calP D sc_L_within (by decide) (fun f cdv A outer s H E hr => ⟨_, ((qss_one (qs_ret (q_and (q_lt (q_ix (q_var 0) q_int) (q_pow q_int q_int)) (q_one (q_all rfl z_all (qa_cons (q_frz (qn_lc (g := (gName 1)) (tt := tYes) (te := (tOp rLtI (tCB rAbsA (tCons (tVar 1) tNil)) (tOp rPowI (tC (.int 10)) (tC (.int 40))))) (gm := (gNameM 1)) (cm := bYes) (em := (eOp fLt (eCB cAbs (aCons (eVar 1) aNil)) (eOp fPow (eC (.int 10)) (eC (.int 40))))) (ws := [1]) [(("_law_top" : Str), 1)] rfl sc_L_within.nd (qi_any (q_ix (q_var 0) q_int)) rfl rfl (by kernel_rfl) (fun _ _ _ _ _ => (qg_name 1 sc_L_within.nd)) (fun _ _ _ _ _ => qts_nil) (fun _ _ _ _ _ => (q_lt (q_abs z_abs (qa_cons (q_var 1) qa_nil)) (q_pow q_int q_int))) (by decide))) qa_nil)))))))⟩)
/-! _law_drawn -/
abbrev s_L_drawn : Stmt := topS 38
theorem sc_L_drawn : FnScope [("_law_flow_here" : Str), ("_law_form" : Str), ("_law_most" : Str), ("_law_found" : Str), ("_law_many" : Str), ("_law_great" : Str), ("_law_some" : Str), ("_law_m" : Str), ("_law_k" : Str), ("_law_degrees" : Str), ("_law_n" : Str)] [("_law_flow_here" : Str)] (defScope s_L_drawn) := ⟨rfl, rfl, rfl, by decide +kernel, rfl, by decide +kernel, by decide +kernel⟩
theorem k_L_drawn {P : Program} {w : World} {K : PySem.W.Frag} {mg : Str → Option Value} {base : Heap} (z_int : mg "int" = none) (z_range : mg "range" = none) (k_L_within : Cal P w K mg base 1 "_law_within" [("_law_p" : Str)] (spP K 1 m_L_within)) (k_L_poly : Cal P w K mg base 2 "_law_poly" [("_law_tops" : Str), ("_law_bottom" : Str)] (spP K 2 m_L_poly)) (k_L_of : Cal P w K mg base 4 "_law_of" [("_law_p" : Str), ("_law_q" : Str)] (spP K 2 m_L_of)) (k_L_any_straight : Cal P w K mg base 4 "_law_any_straight" [("_law_flow_here" : Str), ("_law_most" : Str)] (spF K 2 m_L_any_straight)) (k_L_turning : Cal P w K mg base 4 "_law_turning" [("_law_n" : Str), ("_law_a" : Str)] (spP K 2 m_L_turning)) (k_L_number : Cal P w K mg base 2 "_law_number" [("_law_flow_here" : Str), ("_law_most" : Str)] (spF K 2 m_L_number)) (k_L_pick : Cal P w K mg base 1 "_law_pick" [("_law_flow_here" : Str), ("_law_many" : Str)] (spF K 2 m_L_pick)) (k_L_together : Cal P w K mg base 5 "_law_together" [("_law_chain" : Str)] (spP K 1 m_L_together)) (k_L_any_poly : Cal P w K mg base 3 "_law_any_poly" [("_law_flow_here" : Str), ("_law_many" : Str), ("_law_most" : Str)] (spF K 3 m_L_any_poly)) (k_L_neat_poly : Cal P w K mg base 3 "_law_neat_poly" [("_law_flow_here" : Str), ("_law_many" : Str), ("_law_most" : Str)] (spF K 3 m_L_neat_poly)) (k_L_sum : Cal P w K mg base 3 "_law_sum" [("_law_p" : Str), ("_law_q" : Str)] (spP K 2 m_L_sum)) (D : DefIn K mg "_law_drawn" s_L_drawn [("_law_flow_here" : Str)]) : Cal P w K mg base 6 "_law_drawn" [("_law_flow_here" : Str)] (spF K 1 m_L_drawn_6) := by
  unfold m_L_drawn_6
  exact calF D sc_L_drawn (by decide) (fun f cdv A outer s H E hr => ⟨_, ((qss_cons (qs_set 1 sc_L_drawn.nd (q_calF k_L_pick hr (by decide) (qa_cons (q_var 0) (qa_cons q_int qa_nil))))
    (qss_cons (qs_set 2 sc_L_drawn.nd (q_ix (q_frz (qn_disp (qa_cons q_int (qa_cons q_int (qa_cons q_int qa_nil))))) (q_calF k_L_pick hr (by decide) (qa_cons (q_var 0) (qa_cons q_int qa_nil)))))
    (qss_cons (qs_set 3 sc_L_drawn.nd (q_tup (qa_cons (q_tup (qa_cons q_int (qa_cons q_int qa_nil))) (qa_cons q_int qa_nil))))
    (qss_cons (qs_if (qt_eq hr (q_var 1) q_int)
    (qss_cons (qs_set 4 sc_L_drawn.nd (q_addA q_int (q_calF k_L_pick hr (by decide) (qa_cons (q_var 0) (qa_cons (q_ix (q_frz (qn_disp (qa_cons q_int (qa_cons q_int qa_nil)))) (q_intc z_int (qa_cons (q_eq hr (q_calF k_L_pick hr (by decide) (qa_cons (q_var 0) (qa_cons q_int qa_nil))) q_int) qa_nil))) qa_nil)))))
    (qss_cons (qs_set 3 sc_L_drawn.nd (q_calF k_L_any_poly hr (by decide) (qa_cons (q_var 0) (qa_cons (q_var 4) (qa_cons (q_var 2) qa_nil)))))
    (qss_one (qs_if (qt_w (qw_and (qt_eq hr (q_calF k_L_pick hr (by decide) (qa_cons (q_var 0) (qa_cons q_int qa_nil))) q_int) (qw_and1 (qt_lt (q_var 4) q_int))))
    (qss_cons (qs_setLc (g := (gName 8)) (tt := tYes) (te := (tCall (spF K 2 m_L_number) [] E0 (tCons (tVar 0) (tCons (tOp rPowI (tC (.int 10)) (tC (.int 39))) tNil)))) (gm := (gNameM 8)) (cm := bYes) (em := (eCallF 2 m_L_number (aCons (eVar 0) (aCons (eOp fPow (eC (.int 10)) (eC (.int 39))) aNil)))) (ws := [8]) 5 [(("_law_k" : Str), 8)] true rfl sc_L_drawn.nd (sw_true rfl rfl rfl (by decide +kernel)) (qi_r1 z_range (qa_cons (q_var 4) qa_nil)) rfl rfl (by kernel_rfl) (fun _ _ _ _ _ => (qg_name 8 sc_L_drawn.nd)) (fun _ _ _ _ _ => qts_nil) (fun _ _ _ _ _ => (q_calF k_L_number hr (by decide) (qa_cons (q_var 0) (qa_cons (q_pow q_int q_int) qa_nil)))) (by decide))
    (qss_one (qs_set 3 sc_L_drawn.nd (q_calP k_L_sum hr (by decide) (qa_cons (q_var 3) (qa_cons (q_calP k_L_poly hr (by decide) (qa_cons (q_var 5) (qa_cons q_int qa_nil))) qa_nil))))))
    qss_nil))))
    qss_nil)
    (qss_cons (qs_if (qt_w (qw_or (qt_eq hr (q_var 1) q_int) (qw_or1 (qt_eq hr (q_var 1) q_int))))
    (qss_cons (qs_set 6 sc_L_drawn.nd (q_frz (qn_disp (qa_cons (q_tup (qa_cons q_int (qa_cons q_int qa_nil))) (qa_cons (q_tup (qa_cons q_int (qa_cons q_int qa_nil))) (qa_cons (q_tup (qa_cons q_int (qa_cons q_int qa_nil))) (qa_cons (q_tup (qa_cons q_int (qa_cons q_int qa_nil))) (qa_cons (q_tup (qa_cons q_int (qa_cons q_int qa_nil))) (qa_cons (q_tup (qa_cons q_int (qa_cons q_int qa_nil))) (qa_cons (q_tup (qa_cons q_int (qa_cons q_int qa_nil))) (qa_cons (q_tup (qa_cons q_int (qa_cons q_int qa_nil))) (qa_cons (q_tup (qa_cons q_int (qa_cons q_int qa_nil))) (qa_cons (q_tup (qa_cons q_int (qa_cons q_int qa_nil))) (qa_cons (q_tup (qa_cons q_int (qa_cons q_int qa_nil))) (qa_cons (q_tup (qa_cons q_int (qa_cons q_int qa_nil))) qa_nil)))))))))))))))
    (qss_cons (qs_asg (q_ix (q_var 6) (q_calF k_L_pick hr (by decide) (qa_cons (q_var 0) (qa_cons q_int qa_nil)))) (qg_tup rfl (qgs_cons (qg_name 7 sc_L_drawn.nd) (gName_noEx 7) (qgs_cons (qg_name 8 sc_L_drawn.nd) (gName_noEx 8) qgs_nil))))
    (qss_one (qs_set 3 sc_L_drawn.nd (q_calP k_L_of hr (by decide) (qa_cons (q_calF k_L_any_poly hr (by decide) (qa_cons (q_var 0) (qa_cons (q_var 7) (qa_cons (q_var 2) qa_nil)))) (qa_cons (q_calF k_L_neat_poly hr (by decide) (qa_cons (q_var 0) (qa_cons (q_var 8) (qa_cons (q_var 2) qa_nil)))) qa_nil)))))))
    qss_nil)
    (qss_cons (qs_if (qt_eq hr (q_var 1) q_int)
    (qss_cons (qs_set 9 sc_L_drawn.nd (q_ix (q_frz (qn_disp (qa_cons (q_tup (qa_cons q_int (qa_cons q_int (qa_cons q_int qa_nil)))) (qa_cons (q_tup (qa_cons q_int (qa_cons q_int (qa_cons q_int qa_nil)))) (qa_cons (q_tup (qa_cons q_int (qa_cons q_int (qa_cons q_int qa_nil)))) (qa_cons (q_tup (qa_cons q_int (qa_cons q_int (qa_cons q_int qa_nil)))) qa_nil)))))) (q_calF k_L_pick hr (by decide) (qa_cons (q_var 0) (qa_cons q_int qa_nil)))))
    (qss_one (qs_set 3 sc_L_drawn.nd (q_calP k_L_together hr (by decide) (qa_cons (q_frz (qn_lc (g := (gName 8)) (tt := tYes) (te := (tCall (spF K 3 m_L_any_poly) [] E0 (tCons (tVar 0) (tCons (tVar 8) (tCons (tC (.int 3)) tNil))))) (gm := (gNameM 8)) (cm := bYes) (em := (eCallF 3 m_L_any_poly (aCons (eVar 0) (aCons (eVar 8) (aCons (eC (.int 3)) aNil))))) (ws := [8]) [(("_law_k" : Str), 8)] rfl sc_L_drawn.nd (qi_any (q_var 9)) rfl rfl (by kernel_rfl) (fun _ _ _ _ _ => (qg_name 8 sc_L_drawn.nd)) (fun _ _ _ _ _ => qts_nil) (fun _ _ _ _ _ => (q_calF k_L_any_poly hr (by decide) (qa_cons (q_var 0) (qa_cons (q_var 8) (qa_cons q_int qa_nil))))) (by decide))) qa_nil)))))
    qss_nil)
    (qss_cons (qs_if (qt_eq hr (q_var 1) q_int)
    (qss_cons (qs_set 10 sc_L_drawn.nd (q_ix (q_frz (qn_disp (qa_cons q_int (qa_cons q_int (qa_cons q_int (qa_cons q_int (qa_cons q_int (qa_cons q_int (qa_cons q_int (qa_cons q_int qa_nil)))))))))) (q_calF k_L_pick hr (by decide) (qa_cons (q_var 0) (qa_cons q_int qa_nil)))))
    (qss_cons (qs_set 3 sc_L_drawn.nd (q_calP k_L_turning hr (by decide) (qa_cons (q_var 10) (qa_cons (q_tup (qa_cons (q_calF k_L_number hr (by decide) (qa_cons (q_var 0) (qa_cons q_int qa_nil))) (qa_cons q_int qa_nil))) qa_nil))))
    (qss_one (qs_set 3 sc_L_drawn.nd (q_calP k_L_of hr (by decide) (qa_cons (q_calF k_L_any_straight hr (by decide) (qa_cons (q_var 0) (qa_cons q_int qa_nil))) (qa_cons (q_calP k_L_of hr (by decide) (qa_cons (q_var 3) (qa_cons (q_calF k_L_any_straight hr (by decide) (qa_cons (q_var 0) (qa_cons q_int qa_nil))) qa_nil))) qa_nil)))))))
    qss_nil)
    (qss_cons (qs_if (qt_not (qt_tru (q_calP k_L_within hr (by decide) (qa_cons (q_var 3) qa_nil))))
    (qss_one (qs_ret (q_calP k_L_poly hr (by decide) (qa_cons (q_addA (q_mulA (q_frz (qn_disp (qa_cons q_int qa_nil))) q_int) (q_frz (qn_disp (qa_cons q_int qa_nil)))) (qa_cons q_int qa_nil)))))
    qss_nil)
    (qss_one (qs_ret (q_var 3))))))))))))⟩)
/-! _law_whole -/
abbrev s_L_whole : Stmt := topS 39
theorem sc_L_whole : FnScope [("_law_thing" : Str)] [("_law_thing" : Str)] (defScope s_L_whole) := ⟨rfl, rfl, rfl, by decide +kernel, rfl, by decide +kernel, by decide +kernel⟩
theorem k_L_whole {P : Program} {w : World} {K : PySem.W.Frag} {mg : Str → Option Value} {base : Heap} (z_bool : mg "bool" = none) (z_int : mg "int" = none) (z_isinstance : mg "isinstance" = none) (D : DefIn K mg "_law_whole" s_L_whole [("_law_thing" : Str)]) : Cal P w K mg base 1 "_law_whole" [("_law_thing" : Str)] (spP K 1 m_L_whole) := by
  unfold m_L_whole
  exact calP D sc_L_whole (by decide) (fun f cdv A outer s H E hr => ⟨_, ((qss_one (qs_ret (q_and (q_isi z_isinstance z_int boot_int (q_var 0)) (q_one (q_not (q_isi z_isinstance z_bool boot_bool (q_var 0))))))))⟩)
/-! _law_is_poly -/
abbrev s_L_is_poly : Stmt := topS 40
theorem sc_L_is_poly : FnScope [("_law_thing" : Str), ("_law_top" : Str)] [("_law_thing" : Str)] (defScope s_L_is_poly) := ⟨rfl, rfl, rfl, by decide +kernel, rfl, by decide +kernel, by decide +kernel⟩
theorem k_L_is_poly {P : Program} {w : World} {K : PySem.W.Frag} {mg : Str → Option Value} {base : Heap} (z_all : mg "all" = none) (z_isinstance : mg "isinstance" = none) (z_len : mg "len" = none) (z_tuple : mg "tuple" = none) (k_L_poly : Cal P w K mg base 2 "_law_poly" [("_law_tops" : Str), ("_law_bottom" : Str)] (spP K 2 m_L_poly)) (k_L_whole : Cal P w K mg base 1 "_law_whole" [("_law_thing" : Str)] (spP K 1 m_L_whole)) (D : DefIn K mg "_law_is_poly" s_L_is_poly [("_law_thing" : Str)]) : Cal P w K mg base 3 "_law_is_poly" [("_law_thing" : Str)] (spP K 1 m_L_is_poly) := by
  unfold m_L_is_poly
  exact calP D sc_L_is_poly (by decide) (fun f cdv A outer s H E hr => ⟨_, ((qss_cons (qs_if (qt_w (qw_or (qt_not (qt_tru (q_isi z_isinstance z_tuple boot_tuple (q_var 0)))) (qw_or (qt_ne hr (q_len z_len (qa_cons (q_var 0) qa_nil)) q_int) (qw_or1 (qt_not (qt_tru (q_isi z_isinstance z_tuple boot_tuple (q_ix (q_var 0) q_int))))))))
    (qss_one (qs_ret q_bl))
    qss_nil)
    (qss_cons (qs_if (qt_w (qw_or (qt_not (qt_tru (q_calP k_L_whole hr (by decide) (qa_cons (q_ix (q_var 0) q_int) qa_nil)))) (qw_or (qt_lt (q_ix (q_var 0) q_int) q_int) (qw_or1 (qt_not (qt_tru (q_all rfl z_all (qa_cons (q_frz (qn_lc (g := (gName 1)) (tt := tYes) (te := (tCall (spP K 1 m_L_whole) [] E0 (tCons (tVar 1) tNil))) (gm := (gNameM 1)) (cm := bYes) (em := (eCallP 1 m_L_whole (aCons (eVar 1) aNil))) (ws := [1]) [(("_law_top" : Str), 1)] rfl sc_L_is_poly.nd (qi_any (q_ix (q_var 0) q_int)) rfl rfl (by kernel_rfl) (fun _ _ _ _ _ => (qg_name 1 sc_L_is_poly.nd)) (fun _ _ _ _ _ => qts_nil) (fun _ _ _ _ _ => (q_calP k_L_whole hr (by decide) (qa_cons (q_var 1) qa_nil))) (by decide))) qa_nil))))))))
    (qss_one (qs_ret q_bl))
    qss_nil)
    (qss_one (qs_ret (q_eq hr (q_var 0) (q_calP k_L_poly hr (by decide) (qa_cons (q_ix (q_var 0) q_int) (qa_cons (q_ix (q_var 0) q_int) qa_nil)))))))))⟩)
/-! _law_is_candidate -/
abbrev s_L_is_candidate : Stmt := topS 41
theorem sc_L_is_candidate : FnScope [("_law_f" : Str), ("_law_s" : Str), ("_law_h" : Str), ("_law_n" : Str), ("_law_found" : Str), ("_law_k" : Str)] [("_law_f" : Str), ("_law_s" : Str), ("_law_h" : Str)] (defScope s_L_is_candidate) := ⟨rfl, rfl, rfl, by decide +kernel, rfl, by decide +kernel, by decide +kernel⟩
theorem k_L_is_candidate {P : Program} {w : World} {K : PySem.W.Frag} {mg : Str → Option Value} {base : Heap} (z_all : mg "all" = none) (z_len : mg "len" = none) (z_range : mg "range" = none) (k_L_at : Cal P w K mg base 3 "_law_at" [("_law_p" : Str), ("_law_k" : Str)] (spP K 2 m_L_at_2)) (k_L_times : Cal P w K mg base 3 "_law_times" [("_law_p" : Str), ("_law_q" : Str)] (spP K 2 m_L_times)) (k_L_poly : Cal P w K mg base 2 "_law_poly" [("_law_tops" : Str), ("_law_bottom" : Str)] (spP K 2 m_L_poly)) (k_L_power : Cal P w K mg base 4 "_law_power" [("_law_p" : Str), ("_law_k" : Str)] (spP K 2 m_L_power)) (k_L_is_poly : Cal P w K mg base 3 "_law_is_poly" [("_law_thing" : Str)] (spP K 1 m_L_is_poly)) (D : DefIn K mg "_law_is_candidate" s_L_is_candidate [("_law_f" : Str), ("_law_s" : Str), ("_law_h" : Str)]) : Cal P w K mg base 5 "_law_is_candidate" [("_law_f" : Str), ("_law_s" : Str), ("_law_h" : Str)] (spP K 3 m_L_is_candidate) := by
  unfold m_L_is_candidate
  exact calP D sc_L_is_candidate (by decide) (fun f cdv A outer s H E hr => ⟨_, ((qss_cons (qs_if (qt_w (qw_or (qt_not (qt_tru (q_calP k_L_is_poly hr (by decide) (qa_cons (q_var 2) qa_nil)))) (qw_or (qt_ne hr (q_len z_len (qa_cons (q_ix (q_var 2) q_int) qa_nil)) (q_addA (q_var 1) q_int)) (qw_or (qt_ne hr (q_ix (q_ix (q_var 2) q_int) (q_var 1)) (q_ix (q_var 2) q_int)) (qw_or1 (qt_ne hr (q_ix (q_ix (q_var 2) q_int) q_int) q_int))))))
    (qss_one (qs_ret q_bl))
    qss_nil)
    (qss_cons (qs_set 3 sc_L_is_candidate.nd (q_sub (q_len z_len (qa_cons (q_ix (q_var 0) q_int) qa_nil)) q_int))
    (qss_cons (qs_set 4 sc_L_is_candidate.nd (q_calP k_L_times hr (by decide) (qa_cons (q_calP k_L_power hr (by decide) (qa_cons (q_var 2) (qa_cons (q_div (q_var 3) (q_var 1)) qa_nil))) (qa_cons (q_calP k_L_poly hr (by decide) (qa_cons (q_frz (qn_disp (qa_cons (q_ix (q_ix (q_var 0) q_int) (q_var 3)) qa_nil))) (qa_cons (q_ix (q_var 0) q_int) qa_nil))) qa_nil))))
    (qss_one (qs_ret (q_all rfl z_all (qa_cons (q_frz (qn_lc (g := (gName 5)) (tt := tYes) (te := (tOp (rEqD K) (tCall (spP K 2 m_L_at_2) [] E0 (tCons (tVar 4) (tCons (tOp rSubI (tVar 3) (tVar 5)) tNil))) (tCall (spP K 2 m_L_at_2) [] E0 (tCons (tVar 0) (tCons (tOp rSubI (tVar 3) (tVar 5)) tNil))))) (gm := (gNameM 5)) (cm := bYes) (em := (eOp (opEq false) (eCallP 2 m_L_at_2 (aCons (eVar 4) (aCons (eOp fSub (eVar 3) (eVar 5)) aNil))) (eCallP 2 m_L_at_2 (aCons (eVar 0) (aCons (eOp fSub (eVar 3) (eVar 5)) aNil))))) (ws := [5]) [(("_law_k" : Str), 5)] rfl sc_L_is_candidate.nd (qi_r1 z_range (qa_cons (q_var 1) qa_nil)) rfl rfl (by kernel_rfl) (fun _ _ _ _ _ => (qg_name 5 sc_L_is_candidate.nd)) (fun _ _ _ _ _ => qts_nil) (fun _ _ _ _ _ => (q_eq hr (q_calP k_L_at hr (by decide) (qa_cons (q_var 4) (qa_cons (q_sub (q_var 3) (q_var 5)) qa_nil))) (q_calP k_L_at hr (by decide) (qa_cons (q_var 0) (qa_cons (q_sub (q_var 3) (q_var 5)) qa_nil))))) (by decide))) qa_nil))))))))⟩)
/-! _law_divisors -/
abbrev s_L_divisors : Stmt := topS 42
theorem sc_L_divisors : FnScope [("_law_f" : Str), ("_law_n" : Str), ("_law_s" : Str)] [("_law_f" : Str)] (defScope s_L_divisors) := ⟨rfl, rfl, rfl, by decide +kernel, rfl, by decide +kernel, by decide +kernel⟩
theorem k_L_divisors {P : Program} {w : World} {K : PySem.W.Frag} {mg : Str → Option Value} {base : Heap} (z_len : mg "len" = none) (z_range : mg "range" = none) (D : DefIn K mg "_law_divisors" s_L_divisors [("_law_f" : Str)]) : Cal P w K mg base 1 "_law_divisors" [("_law_f" : Str)] (spP K 1 m_L_divisors) := by
  unfold m_L_divisors
  exact calP D sc_L_divisors (by decide) (fun f cdv A outer s H E hr => ⟨_, ((qss_cons (qs_set 1 sc_L_divisors.nd (q_sub (q_len z_len (qa_cons (q_ix (q_var 0) q_int) qa_nil)) q_int))
    (qss_one (qs_ret (q_frz (qn_lc (g := (gName 2)) (tt := (tTest (tOp (rEqD K) (tOp rModI (tVar 1) (tVar 2)) (tC (.int 0))))) (te := (tVar 2)) (gm := (gNameM 2)) (cm := (bTest (eOp (opEq false) (eOp fMod (eVar 1) (eVar 2)) (eC (.int 0))))) (em := (eVar 2)) (ws := [2]) [(("_law_s" : Str), 2)] rfl sc_L_divisors.nd (qi_r2 z_range (qa_cons q_int (qa_cons (q_addA (q_var 1) q_int) qa_nil))) rfl rfl (by kernel_rfl) (fun _ _ _ _ _ => (qg_name 2 sc_L_divisors.nd)) (fun _ _ _ _ _ => (qts_one (qt_eq hr (q_mod (q_var 1) (q_var 2)) q_int))) (fun _ _ _ _ _ => (q_var 2)) (by decide)))))))⟩)
/-! _law_right -/
abbrev s_L_right : Stmt := topS 43
theorem sc_L_right : FnScope [("_law_f" : Str), ("_law_s" : Str)] [("_law_f" : Str)] (defScope s_L_right) := ⟨rfl, rfl, rfl, by decide +kernel, rfl, by decide +kernel, by decide +kernel⟩
theorem k_L_right {P : Program} {w : World} {K : PySem.W.Frag} {mg : Str → Option Value} {base : Heap} (z_all : mg "all" = none) (k_L_divisors : Cal P w K mg base 1 "_law_divisors" [("_law_f" : Str)] (spP K 1 m_L_divisors)) (k_L_is_candidate : Cal P w K mg base 5 "_law_is_candidate" [("_law_f" : Str), ("_law_s" : Str), ("_law_h" : Str)] (spP K 3 m_L_is_candidate)) (k_candidate : Cal P w K mg base 5 "candidate" [("f" : Str), ("s" : Str)] (spP K 2 m_candidate)) (D : DefIn K mg "_law_right" s_L_right [("_law_f" : Str)]) : Cal P w K mg base 6 "_law_right" [("_law_f" : Str)] (spP K 1 m_L_right_18) := by
  unfold m_L_right_18
  exact calP D sc_L_right (by decide) (fun f cdv A outer s H E hr => ⟨_, ((qss_one (qs_ret (q_all rfl z_all (qa_cons (q_frz (qn_lc (g := (gName 1)) (tt := tYes) (te := (tCall (spP K 3 m_L_is_candidate) [] E0 (tCons (tVar 0) (tCons (tVar 1) (tCons (tCall (spP K 2 m_candidate) [] E0 (tCons (tVar 0) (tCons (tVar 1) tNil))) tNil))))) (gm := (gNameM 1)) (cm := bYes) (em := (eCallP 3 m_L_is_candidate (aCons (eVar 0) (aCons (eVar 1) (aCons (eCallP 2 m_candidate (aCons (eVar 0) (aCons (eVar 1) aNil))) aNil))))) (ws := [1]) [(("_law_s" : Str), 1)] rfl sc_L_right.nd (qi_any (q_calP k_L_divisors hr (by decide) (qa_cons (q_var 0) qa_nil))) rfl rfl (by kernel_rfl) (fun _ _ _ _ _ => (qg_name 1 sc_L_right.nd)) (fun _ _ _ _ _ => qts_nil) (fun _ _ _ _ _ => (q_calP k_L_is_candidate hr (by decide) (qa_cons (q_var 0) (qa_cons (q_var 1) (qa_cons (q_calP k_candidate hr (by decide) (qa_cons (q_var 0) (qa_cons (q_var 1) qa_nil))) qa_nil))))) (by decide))) qa_nil)))))⟩)
/-! law -/
abbrev s_law : Stmt := topS 44
theorem sc_law : FnScope [("_law_script" : Str), ("_law_flow_here" : Str), ("_law_some" : Str), ("_law_k" : Str), ("_law_f" : Str)] [("_law_script" : Str)] (defScope s_law) := ⟨rfl, rfl, rfl, by decide +kernel, rfl, by decide +kernel, by decide +kernel⟩
theorem ok_law {P : Program} {w : World} {K : PySem.W.Frag} {mg : Str → Option Value} {base : Heap} {f : Addr} {fd : FuncData} (z_all : mg "all" = none) (z_range : mg "range" = none) (k_L_right : Cal P w K mg base 6 "_law_right" [("_law_f" : Str)] (spP K 1 m_L_right_18)) (k_L_drawn : Cal P w K mg base 6 "_law_drawn" [("_law_flow_here" : Str)] (spF K 1 m_L_drawn_6))
    (k_Lflow : Cal P w K mg base 1 "_law_flow" ["_law_script"] (spFl K)) (D : Fun K "law" "law" s_law f fd)
    (hsem : ∀ ns : List Int, ns.length ≤ 63 → ∃ st', b_law_k28 ((startL 5 [.scr ns]).set 1 (some .flow)) ⟨some (fl0 ns), []⟩ = .rt (.d (.bool true)) st') :
    FnOk P w K mg base CX0 7 f fd ["_law_script"] (spLaw K) := by
  refine okLaw (i := 1) (mf := "_law_flow") (psf := ["_law_script"]) (kf := 1) D sc_law rfl (by decide) (fun cdv A outer s H E hr => ?_) hsem
  obtain ⟨fF, fdF, FF, mF, kF, bF⟩ := k_Lflow.ex
  have z : QSs (cxOf CX0 P w K mg base _ "law" (defScope s_law) f cdv A outer s H E).nox (defBody s_law).tail _ b_law_k28 := (qss_cons (qs_setLc (g := (gName 3)) (tt := tYes) (te := (tCall (spF K 1 m_L_drawn_6) [] E0 (tCons (tVar 1) tNil))) (gm := (gNameM 3)) (cm := bYes) (em := (eCallF 1 m_L_drawn_6 (aCons (eVar 1) aNil))) (ws := [3]) 2 [(("_law_k" : Str), 3)] true rfl sc_law.nd (sw_true rfl rfl rfl (by decide +kernel)) (qi_r1 z_range (qa_cons q_int qa_nil)) rfl rfl (by kernel_rfl) (fun _ _ _ _ _ => (qg_name 3 sc_law.nd)) (fun _ _ _ _ _ => qts_nil) (fun _ _ _ _ _ => (q_calF k_L_drawn hr (by decide) (qa_cons (q_var 1) qa_nil))) (by decide))
    (qss_one (qs_ret (q_all rfl z_all (qa_cons (q_frz (qn_lc (g := (gName 4)) (tt := tYes) (te := (tCall (spP K 1 m_L_right_18) [] E0 (tCons (tVar 4) tNil))) (gm := (gNameM 4)) (cm := bYes) (em := (eCallP 1 m_L_right_18 (aCons (eVar 4) aNil))) (ws := [4]) [(("_law_f" : Str), 4)] rfl sc_law.nd (qi_any (q_addA (q_var 2) (q_slA (q_var 2) qo_none (qo_some q_int)))) rfl rfl (by kernel_rfl) (fun _ _ _ _ _ => (qg_name 4 sc_law.nd)) (fun _ _ _ _ _ => qts_nil) (fun _ _ _ _ _ => (q_calP k_L_right hr (by decide) (qa_cons (q_var 4) qa_nil))) (by decide))) qa_nil)))))
  exact ⟨_, pss_cons (ps_set (i := 1) sc_law.nd rfl (by first | exact .inl rfl | exact .inr rfl) (pe_call FF (hr.mono (by decide)) (by rfl) mF kF bF .nil pass0 (pa_cons (pv 0) pa_nil))) z.pss, fun G hG => z.sim G hG⟩
/-! what the top has written -/
theorem all_mk {l : PySem.W.OpenLaw} {w : World} {K : PySem.W.Frag} {h : Heap} {mg : Str → Option Value} {fa : Addr} (X : K.In h) (G : h.Ns mainGlobals mg) (hfa : mg "law" = some (.ref fa)) (hsem : ∀ ns : List Int, ns.length ≤ 63 → ∃ st', b_law_k28 ((startL 5 [.scr ns]).set 1 (some .flow)) ⟨some (fl0 ns), []⟩ = .rt (.d (.bool true)) st')
    {f_common_part : Addr} {oc_common_part kV_common_part dc_common_part pm_common_part cd_common_part ct_common_part : Value} {od_common_part an_common_part : Option Addr} {sl_common_part : Array (Option Value)}
    (a_common_part : PySem.W.nsIn K mainGlobals "common_part" = some (some (.ref f_common_part))) (l_common_part : K.lookup f_common_part = some ⟨oc_common_part, od_common_part, .func (PySem.W.fnOf "common_part" "common_part" (defArgs s_common_part) (defBody s_common_part) (defScope s_common_part) .none kV_common_part dc_common_part pm_common_part an_common_part cd_common_part ct_common_part), sl_common_part⟩) (c_common_part : PySem.W.codeIn K cd_common_part "common_part" = true) (q_common_part : PySem.W.keepIn K (.ref f_common_part) = true)
    {f_fraction : Addr} {oc_fraction kV_fraction dc_fraction pm_fraction cd_fraction ct_fraction : Value} {od_fraction an_fraction : Option Addr} {sl_fraction : Array (Option Value)}
    (a_fraction : PySem.W.nsIn K mainGlobals "fraction" = some (some (.ref f_fraction))) (l_fraction : K.lookup f_fraction = some ⟨oc_fraction, od_fraction, .func (PySem.W.fnOf "fraction" "fraction" (defArgs s_fraction) (defBody s_fraction) (defScope s_fraction) .none kV_fraction dc_fraction pm_fraction an_fraction cd_fraction ct_fraction), sl_fraction⟩) (c_fraction : PySem.W.codeIn K cd_fraction "fraction" = true) (q_fraction : PySem.W.keepIn K (.ref f_fraction) = true)
    {f_taken : Addr} {oc_taken kV_taken dc_taken pm_taken cd_taken ct_taken : Value} {od_taken an_taken : Option Addr} {sl_taken : Array (Option Value)}
    (a_taken : PySem.W.nsIn K mainGlobals "taken" = some (some (.ref f_taken))) (l_taken : K.lookup f_taken = some ⟨oc_taken, od_taken, .func (PySem.W.fnOf "taken" "taken" (defArgs s_taken) (defBody s_taken) (defScope s_taken) .none kV_taken dc_taken pm_taken an_taken cd_taken ct_taken), sl_taken⟩) (c_taken : PySem.W.codeIn K cd_taken "taken" = true) (q_taken : PySem.W.keepIn K (.ref f_taken) = true)
    {f_divided : Addr} {oc_divided kV_divided dc_divided pm_divided cd_divided ct_divided : Value} {od_divided an_divided : Option Addr} {sl_divided : Array (Option Value)}
    (a_divided : PySem.W.nsIn K mainGlobals "divided" = some (some (.ref f_divided))) (l_divided : K.lookup f_divided = some ⟨oc_divided, od_divided, .func (PySem.W.fnOf "divided" "divided" (defArgs s_divided) (defBody s_divided) (defScope s_divided) .none kV_divided dc_divided pm_divided an_divided cd_divided ct_divided), sl_divided⟩) (c_divided : PySem.W.codeIn K cd_divided "divided" = true) (q_divided : PySem.W.keepIn K (.ref f_divided) = true)
    {f_over : Addr} {oc_over kV_over dc_over pm_over cd_over ct_over : Value} {od_over an_over : Option Addr} {sl_over : Array (Option Value)}
    (a_over : PySem.W.nsIn K mainGlobals "over" = some (some (.ref f_over))) (l_over : K.lookup f_over = some ⟨oc_over, od_over, .func (PySem.W.fnOf "over" "over" (defArgs s_over) (defBody s_over) (defScope s_over) .none kV_over dc_over pm_over an_over cd_over ct_over), sl_over⟩) (c_over : PySem.W.codeIn K cd_over "over" = true) (q_over : PySem.W.keepIn K (.ref f_over) = true)
    {f_poly : Addr} {oc_poly kV_poly dc_poly pm_poly cd_poly ct_poly : Value} {od_poly an_poly : Option Addr} {sl_poly : Array (Option Value)}
    (a_poly : PySem.W.nsIn K mainGlobals "poly" = some (some (.ref f_poly))) (l_poly : K.lookup f_poly = some ⟨oc_poly, od_poly, .func (PySem.W.fnOf "poly" "poly" (defArgs s_poly) (defBody s_poly) (defScope s_poly) .none kV_poly dc_poly pm_poly an_poly cd_poly ct_poly), sl_poly⟩) (c_poly : PySem.W.codeIn K cd_poly "poly" = true) (q_poly : PySem.W.keepIn K (.ref f_poly) = true)
    {f_fraction_at : Addr} {oc_fraction_at kV_fraction_at dc_fraction_at pm_fraction_at cd_fraction_at ct_fraction_at : Value} {od_fraction_at an_fraction_at : Option Addr} {sl_fraction_at : Array (Option Value)}
    (a_fraction_at : PySem.W.nsIn K mainGlobals "fraction_at" = some (some (.ref f_fraction_at))) (l_fraction_at : K.lookup f_fraction_at = some ⟨oc_fraction_at, od_fraction_at, .func (PySem.W.fnOf "fraction_at" "fraction_at" (defArgs s_fraction_at) (defBody s_fraction_at) (defScope s_fraction_at) .none kV_fraction_at dc_fraction_at pm_fraction_at an_fraction_at cd_fraction_at ct_fraction_at), sl_fraction_at⟩) (c_fraction_at : PySem.W.codeIn K cd_fraction_at "fraction_at" = true) (q_fraction_at : PySem.W.keepIn K (.ref f_fraction_at) = true)
    {f_degree : Addr} {oc_degree kV_degree dc_degree pm_degree cd_degree ct_degree : Value} {od_degree an_degree : Option Addr} {sl_degree : Array (Option Value)}
    (a_degree : PySem.W.nsIn K mainGlobals "degree" = some (some (.ref f_degree))) (l_degree : K.lookup f_degree = some ⟨oc_degree, od_degree, .func (PySem.W.fnOf "degree" "degree" (defArgs s_degree) (defBody s_degree) (defScope s_degree) .none kV_degree dc_degree pm_degree an_degree cd_degree ct_degree), sl_degree⟩) (c_degree : PySem.W.codeIn K cd_degree "degree" = true) (q_degree : PySem.W.keepIn K (.ref f_degree) = true)
    {f_lead : Addr} {oc_lead kV_lead dc_lead pm_lead cd_lead ct_lead : Value} {od_lead an_lead : Option Addr} {sl_lead : Array (Option Value)}
    (a_lead : PySem.W.nsIn K mainGlobals "lead" = some (some (.ref f_lead))) (l_lead : K.lookup f_lead = some ⟨oc_lead, od_lead, .func (PySem.W.fnOf "lead" "lead" (defArgs s_lead) (defBody s_lead) (defScope s_lead) .none kV_lead dc_lead pm_lead an_lead cd_lead ct_lead), sl_lead⟩) (c_lead : PySem.W.codeIn K cd_lead "lead" = true) (q_lead : PySem.W.keepIn K (.ref f_lead) = true)
    {f_plus : Addr} {oc_plus kV_plus dc_plus pm_plus cd_plus ct_plus : Value} {od_plus an_plus : Option Addr} {sl_plus : Array (Option Value)}
    (a_plus : PySem.W.nsIn K mainGlobals "plus" = some (some (.ref f_plus))) (l_plus : K.lookup f_plus = some ⟨oc_plus, od_plus, .func (PySem.W.fnOf "plus" "plus" (defArgs s_plus) (defBody s_plus) (defScope s_plus) .none kV_plus dc_plus pm_plus an_plus cd_plus ct_plus), sl_plus⟩) (c_plus : PySem.W.codeIn K cd_plus "plus" = true) (q_plus : PySem.W.keepIn K (.ref f_plus) = true)
    {f_times : Addr} {oc_times kV_times dc_times pm_times cd_times ct_times : Value} {od_times an_times : Option Addr} {sl_times : Array (Option Value)}
    (a_times : PySem.W.nsIn K mainGlobals "times" = some (some (.ref f_times))) (l_times : K.lookup f_times = some ⟨oc_times, od_times, .func (PySem.W.fnOf "times" "times" (defArgs s_times) (defBody s_times) (defScope s_times) .none kV_times dc_times pm_times an_times cd_times ct_times), sl_times⟩) (c_times : PySem.W.codeIn K cd_times "times" = true) (q_times : PySem.W.keepIn K (.ref f_times) = true)
    {f_power : Addr} {oc_power kV_power dc_power pm_power cd_power ct_power : Value} {od_power an_power : Option Addr} {sl_power : Array (Option Value)}
    (a_power : PySem.W.nsIn K mainGlobals "power" = some (some (.ref f_power))) (l_power : K.lookup f_power = some ⟨oc_power, od_power, .func (PySem.W.fnOf "power" "power" (defArgs s_power) (defBody s_power) (defScope s_power) .none kV_power dc_power pm_power an_power cd_power ct_power), sl_power⟩) (c_power : PySem.W.codeIn K cd_power "power" = true) (q_power : PySem.W.keepIn K (.ref f_power) = true)
    {f_one_power : Addr} {oc_one_power kV_one_power dc_one_power pm_one_power cd_one_power ct_one_power : Value} {od_one_power an_one_power : Option Addr} {sl_one_power : Array (Option Value)}
    (a_one_power : PySem.W.nsIn K mainGlobals "one_power" = some (some (.ref f_one_power))) (l_one_power : K.lookup f_one_power = some ⟨oc_one_power, od_one_power, .func (PySem.W.fnOf "one_power" "one_power" (defArgs s_one_power) (defBody s_one_power) (defScope s_one_power) .none kV_one_power dc_one_power pm_one_power an_one_power cd_one_power ct_one_power), sl_one_power⟩) (c_one_power : PySem.W.codeIn K cd_one_power "one_power" = true) (q_one_power : PySem.W.keepIn K (.ref f_one_power) = true)
    {f_candidate : Addr} {oc_candidate kV_candidate dc_candidate pm_candidate cd_candidate ct_candidate : Value} {od_candidate an_candidate : Option Addr} {sl_candidate : Array (Option Value)}
    (a_candidate : PySem.W.nsIn K mainGlobals "candidate" = some (some (.ref f_candidate))) (l_candidate : K.lookup f_candidate = some ⟨oc_candidate, od_candidate, .func (PySem.W.fnOf "candidate" "candidate" (defArgs s_candidate) (defBody s_candidate) (defScope s_candidate) .none kV_candidate dc_candidate pm_candidate an_candidate cd_candidate ct_candidate), sl_candidate⟩) (c_candidate : PySem.W.codeIn K cd_candidate "candidate" = true) (q_candidate : PySem.W.keepIn K (.ref f_candidate) = true)
    {f_L_flow : Addr} {oc_L_flow kV_L_flow dc_L_flow pm_L_flow cd_L_flow ct_L_flow : Value} {od_L_flow an_L_flow : Option Addr} {sl_L_flow : Array (Option Value)}
    (a_L_flow : PySem.W.nsIn K mainGlobals "_law_flow" = some (some (.ref f_L_flow))) (l_L_flow : K.lookup f_L_flow = some ⟨oc_L_flow, od_L_flow, .func (PySem.W.fnOf "_law_flow" "_law_flow" (defArgs s_L_flow) (defBody s_L_flow) (defScope s_L_flow) .none kV_L_flow dc_L_flow pm_L_flow an_L_flow cd_L_flow ct_L_flow), sl_L_flow⟩) (c_L_flow : PySem.W.codeIn K cd_L_flow "_law_flow" = true) (q_L_flow : PySem.W.keepIn K (.ref f_L_flow) = true)
    {f_L_pick : Addr} {oc_L_pick kV_L_pick dc_L_pick pm_L_pick cd_L_pick ct_L_pick : Value} {od_L_pick an_L_pick : Option Addr} {sl_L_pick : Array (Option Value)}
    (a_L_pick : PySem.W.nsIn K mainGlobals "_law_pick" = some (some (.ref f_L_pick))) (l_L_pick : K.lookup f_L_pick = some ⟨oc_L_pick, od_L_pick, .func (PySem.W.fnOf "_law_pick" "_law_pick" (defArgs s_L_pick) (defBody s_L_pick) (defScope s_L_pick) .none kV_L_pick dc_L_pick pm_L_pick an_L_pick cd_L_pick ct_L_pick), sl_L_pick⟩) (c_L_pick : PySem.W.codeIn K cd_L_pick "_law_pick" = true) (q_L_pick : PySem.W.keepIn K (.ref f_L_pick) = true)
    {f_L_common : Addr} {oc_L_common kV_L_common dc_L_common pm_L_common cd_L_common ct_L_common : Value} {od_L_common an_L_common : Option Addr} {sl_L_common : Array (Option Value)}
    (a_L_common : PySem.W.nsIn K mainGlobals "_law_common" = some (some (.ref f_L_common))) (l_L_common : K.lookup f_L_common = some ⟨oc_L_common, od_L_common, .func (PySem.W.fnOf "_law_common" "_law_common" (defArgs s_L_common) (defBody s_L_common) (defScope s_L_common) .none kV_L_common dc_L_common pm_L_common an_L_common cd_L_common ct_L_common), sl_L_common⟩) (c_L_common : PySem.W.codeIn K cd_L_common "_law_common" = true) (q_L_common : PySem.W.keepIn K (.ref f_L_common) = true)
    {f_L_fraction : Addr} {oc_L_fraction kV_L_fraction dc_L_fraction pm_L_fraction cd_L_fraction ct_L_fraction : Value} {od_L_fraction an_L_fraction : Option Addr} {sl_L_fraction : Array (Option Value)}
    (a_L_fraction : PySem.W.nsIn K mainGlobals "_law_fraction" = some (some (.ref f_L_fraction))) (l_L_fraction : K.lookup f_L_fraction = some ⟨oc_L_fraction, od_L_fraction, .func (PySem.W.fnOf "_law_fraction" "_law_fraction" (defArgs s_L_fraction) (defBody s_L_fraction) (defScope s_L_fraction) .none kV_L_fraction dc_L_fraction pm_L_fraction an_L_fraction cd_L_fraction ct_L_fraction), sl_L_fraction⟩) (c_L_fraction : PySem.W.codeIn K cd_L_fraction "_law_fraction" = true) (q_L_fraction : PySem.W.keepIn K (.ref f_L_fraction) = true)
    {f_L_poly : Addr} {oc_L_poly kV_L_poly dc_L_poly pm_L_poly cd_L_poly ct_L_poly : Value} {od_L_poly an_L_poly : Option Addr} {sl_L_poly : Array (Option Value)}
    (a_L_poly : PySem.W.nsIn K mainGlobals "_law_poly" = some (some (.ref f_L_poly))) (l_L_poly : K.lookup f_L_poly = some ⟨oc_L_poly, od_L_poly, .func (PySem.W.fnOf "_law_poly" "_law_poly" (defArgs s_L_poly) (defBody s_L_poly) (defScope s_L_poly) .none kV_L_poly dc_L_poly pm_L_poly an_L_poly cd_L_poly ct_L_poly), sl_L_poly⟩) (c_L_poly : PySem.W.codeIn K cd_L_poly "_law_poly" = true) (q_L_poly : PySem.W.keepIn K (.ref f_L_poly) = true)
    {f_L_sum : Addr} {oc_L_sum kV_L_sum dc_L_sum pm_L_sum cd_L_sum ct_L_sum : Value} {od_L_sum an_L_sum : Option Addr} {sl_L_sum : Array (Option Value)}
    (a_L_sum : PySem.W.nsIn K mainGlobals "_law_sum" = some (some (.ref f_L_sum))) (l_L_sum : K.lookup f_L_sum = some ⟨oc_L_sum, od_L_sum, .func (PySem.W.fnOf "_law_sum" "_law_sum" (defArgs s_L_sum) (defBody s_L_sum) (defScope s_L_sum) .none kV_L_sum dc_L_sum pm_L_sum an_L_sum cd_L_sum ct_L_sum), sl_L_sum⟩) (c_L_sum : PySem.W.codeIn K cd_L_sum "_law_sum" = true) (q_L_sum : PySem.W.keepIn K (.ref f_L_sum) = true)
    {f_L_times : Addr} {oc_L_times kV_L_times dc_L_times pm_L_times cd_L_times ct_L_times : Value} {od_L_times an_L_times : Option Addr} {sl_L_times : Array (Option Value)}
    (a_L_times : PySem.W.nsIn K mainGlobals "_law_times" = some (some (.ref f_L_times))) (l_L_times : K.lookup f_L_times = some ⟨oc_L_times, od_L_times, .func (PySem.W.fnOf "_law_times" "_law_times" (defArgs s_L_times) (defBody s_L_times) (defScope s_L_times) .none kV_L_times dc_L_times pm_L_times an_L_times cd_L_times ct_L_times), sl_L_times⟩) (c_L_times : PySem.W.codeIn K cd_L_times "_law_times" = true) (q_L_times : PySem.W.keepIn K (.ref f_L_times) = true)
    {f_L_of : Addr} {oc_L_of kV_L_of dc_L_of pm_L_of cd_L_of ct_L_of : Value} {od_L_of an_L_of : Option Addr} {sl_L_of : Array (Option Value)}
    (a_L_of : PySem.W.nsIn K mainGlobals "_law_of" = some (some (.ref f_L_of))) (l_L_of : K.lookup f_L_of = some ⟨oc_L_of, od_L_of, .func (PySem.W.fnOf "_law_of" "_law_of" (defArgs s_L_of) (defBody s_L_of) (defScope s_L_of) .none kV_L_of dc_L_of pm_L_of an_L_of cd_L_of ct_L_of), sl_L_of⟩) (c_L_of : PySem.W.codeIn K cd_L_of "_law_of" = true) (q_L_of : PySem.W.keepIn K (.ref f_L_of) = true)
    {f_L_straight : Addr} {oc_L_straight kV_L_straight dc_L_straight pm_L_straight cd_L_straight ct_L_straight : Value} {od_L_straight an_L_straight : Option Addr} {sl_L_straight : Array (Option Value)}
    (a_L_straight : PySem.W.nsIn K mainGlobals "_law_straight" = some (some (.ref f_L_straight))) (l_L_straight : K.lookup f_L_straight = some ⟨oc_L_straight, od_L_straight, .func (PySem.W.fnOf "_law_straight" "_law_straight" (defArgs s_L_straight) (defBody s_L_straight) (defScope s_L_straight) .none kV_L_straight dc_L_straight pm_L_straight an_L_straight cd_L_straight ct_L_straight), sl_L_straight⟩) (c_L_straight : PySem.W.codeIn K cd_L_straight "_law_straight" = true) (q_L_straight : PySem.W.keepIn K (.ref f_L_straight) = true)
    {f_L_number : Addr} {oc_L_number kV_L_number dc_L_number pm_L_number cd_L_number ct_L_number : Value} {od_L_number an_L_number : Option Addr} {sl_L_number : Array (Option Value)}
    (a_L_number : PySem.W.nsIn K mainGlobals "_law_number" = some (some (.ref f_L_number))) (l_L_number : K.lookup f_L_number = some ⟨oc_L_number, od_L_number, .func (PySem.W.fnOf "_law_number" "_law_number" (defArgs s_L_number) (defBody s_L_number) (defScope s_L_number) .none kV_L_number dc_L_number pm_L_number an_L_number cd_L_number ct_L_number), sl_L_number⟩) (c_L_number : PySem.W.codeIn K cd_L_number "_law_number" = true) (q_L_number : PySem.W.keepIn K (.ref f_L_number) = true)
    {f_L_any_fraction : Addr} {oc_L_any_fraction kV_L_any_fraction dc_L_any_fraction pm_L_any_fraction cd_L_any_fraction ct_L_any_fraction : Value} {od_L_any_fraction an_L_any_fraction : Option Addr} {sl_L_any_fraction : Array (Option Value)}
    (a_L_any_fraction : PySem.W.nsIn K mainGlobals "_law_any_fraction" = some (some (.ref f_L_any_fraction))) (l_L_any_fraction : K.lookup f_L_any_fraction = some ⟨oc_L_any_fraction, od_L_any_fraction, .func (PySem.W.fnOf "_law_any_fraction" "_law_any_fraction" (defArgs s_L_any_fraction) (defBody s_L_any_fraction) (defScope s_L_any_fraction) .none kV_L_any_fraction dc_L_any_fraction pm_L_any_fraction an_L_any_fraction cd_L_any_fraction ct_L_any_fraction), sl_L_any_fraction⟩) (c_L_any_fraction : PySem.W.codeIn K cd_L_any_fraction "_law_any_fraction" = true) (q_L_any_fraction : PySem.W.keepIn K (.ref f_L_any_fraction) = true)
    {f_L_any_poly : Addr} {oc_L_any_poly kV_L_any_poly dc_L_any_poly pm_L_any_poly cd_L_any_poly ct_L_any_poly : Value} {od_L_any_poly an_L_any_poly : Option Addr} {sl_L_any_poly : Array (Option Value)}
    (a_L_any_poly : PySem.W.nsIn K mainGlobals "_law_any_poly" = some (some (.ref f_L_any_poly))) (l_L_any_poly : K.lookup f_L_any_poly = some ⟨oc_L_any_poly, od_L_any_poly, .func (PySem.W.fnOf "_law_any_poly" "_law_any_poly" (defArgs s_L_any_poly) (defBody s_L_any_poly) (defScope s_L_any_poly) .none kV_L_any_poly dc_L_any_poly pm_L_any_poly an_L_any_poly cd_L_any_poly ct_L_any_poly), sl_L_any_poly⟩) (c_L_any_poly : PySem.W.codeIn K cd_L_any_poly "_law_any_poly" = true) (q_L_any_poly : PySem.W.keepIn K (.ref f_L_any_poly) = true)
    {f_L_neat_poly : Addr} {oc_L_neat_poly kV_L_neat_poly dc_L_neat_poly pm_L_neat_poly cd_L_neat_poly ct_L_neat_poly : Value} {od_L_neat_poly an_L_neat_poly : Option Addr} {sl_L_neat_poly : Array (Option Value)}
    (a_L_neat_poly : PySem.W.nsIn K mainGlobals "_law_neat_poly" = some (some (.ref f_L_neat_poly))) (l_L_neat_poly : K.lookup f_L_neat_poly = some ⟨oc_L_neat_poly, od_L_neat_poly, .func (PySem.W.fnOf "_law_neat_poly" "_law_neat_poly" (defArgs s_L_neat_poly) (defBody s_L_neat_poly) (defScope s_L_neat_poly) .none kV_L_neat_poly dc_L_neat_poly pm_L_neat_poly an_L_neat_poly cd_L_neat_poly ct_L_neat_poly), sl_L_neat_poly⟩) (c_L_neat_poly : PySem.W.codeIn K cd_L_neat_poly "_law_neat_poly" = true) (q_L_neat_poly : PySem.W.keepIn K (.ref f_L_neat_poly) = true)
    {f_L_any_straight : Addr} {oc_L_any_straight kV_L_any_straight dc_L_any_straight pm_L_any_straight cd_L_any_straight ct_L_any_straight : Value} {od_L_any_straight an_L_any_straight : Option Addr} {sl_L_any_straight : Array (Option Value)}
    (a_L_any_straight : PySem.W.nsIn K mainGlobals "_law_any_straight" = some (some (.ref f_L_any_straight))) (l_L_any_straight : K.lookup f_L_any_straight = some ⟨oc_L_any_straight, od_L_any_straight, .func (PySem.W.fnOf "_law_any_straight" "_law_any_straight" (defArgs s_L_any_straight) (defBody s_L_any_straight) (defScope s_L_any_straight) .none kV_L_any_straight dc_L_any_straight pm_L_any_straight an_L_any_straight cd_L_any_straight ct_L_any_straight), sl_L_any_straight⟩) (c_L_any_straight : PySem.W.codeIn K cd_L_any_straight "_law_any_straight" = true) (q_L_any_straight : PySem.W.keepIn K (.ref f_L_any_straight) = true)
    {f_L_turning : Addr} {oc_L_turning kV_L_turning dc_L_turning pm_L_turning cd_L_turning ct_L_turning : Value} {od_L_turning an_L_turning : Option Addr} {sl_L_turning : Array (Option Value)}
    (a_L_turning : PySem.W.nsIn K mainGlobals "_law_turning" = some (some (.ref f_L_turning))) (l_L_turning : K.lookup f_L_turning = some ⟨oc_L_turning, od_L_turning, .func (PySem.W.fnOf "_law_turning" "_law_turning" (defArgs s_L_turning) (defBody s_L_turning) (defScope s_L_turning) .none kV_L_turning dc_L_turning pm_L_turning an_L_turning cd_L_turning ct_L_turning), sl_L_turning⟩) (c_L_turning : PySem.W.codeIn K cd_L_turning "_law_turning" = true) (q_L_turning : PySem.W.keepIn K (.ref f_L_turning) = true)
    {f_L_together : Addr} {oc_L_together kV_L_together dc_L_together pm_L_together cd_L_together ct_L_together : Value} {od_L_together an_L_together : Option Addr} {sl_L_together : Array (Option Value)}
    (a_L_together : PySem.W.nsIn K mainGlobals "_law_together" = some (some (.ref f_L_together))) (l_L_together : K.lookup f_L_together = some ⟨oc_L_together, od_L_together, .func (PySem.W.fnOf "_law_together" "_law_together" (defArgs s_L_together) (defBody s_L_together) (defScope s_L_together) .none kV_L_together dc_L_together pm_L_together an_L_together cd_L_together ct_L_together), sl_L_together⟩) (c_L_together : PySem.W.codeIn K cd_L_together "_law_together" = true) (q_L_together : PySem.W.keepIn K (.ref f_L_together) = true)
    {f_L_power : Addr} {oc_L_power kV_L_power dc_L_power pm_L_power cd_L_power ct_L_power : Value} {od_L_power an_L_power : Option Addr} {sl_L_power : Array (Option Value)}
    (a_L_power : PySem.W.nsIn K mainGlobals "_law_power" = some (some (.ref f_L_power))) (l_L_power : K.lookup f_L_power = some ⟨oc_L_power, od_L_power, .func (PySem.W.fnOf "_law_power" "_law_power" (defArgs s_L_power) (defBody s_L_power) (defScope s_L_power) .none kV_L_power dc_L_power pm_L_power an_L_power cd_L_power ct_L_power), sl_L_power⟩) (c_L_power : PySem.W.codeIn K cd_L_power "_law_power" = true) (q_L_power : PySem.W.keepIn K (.ref f_L_power) = true)
    {f_L_at : Addr} {oc_L_at kV_L_at dc_L_at pm_L_at cd_L_at ct_L_at : Value} {od_L_at an_L_at : Option Addr} {sl_L_at : Array (Option Value)}
    (a_L_at : PySem.W.nsIn K mainGlobals "_law_at" = some (some (.ref f_L_at))) (l_L_at : K.lookup f_L_at = some ⟨oc_L_at, od_L_at, .func (PySem.W.fnOf "_law_at" "_law_at" (defArgs s_L_at) (defBody s_L_at) (defScope s_L_at) .none kV_L_at dc_L_at pm_L_at an_L_at cd_L_at ct_L_at), sl_L_at⟩) (c_L_at : PySem.W.codeIn K cd_L_at "_law_at" = true) (q_L_at : PySem.W.keepIn K (.ref f_L_at) = true)
    {f_L_within : Addr} {oc_L_within kV_L_within dc_L_within pm_L_within cd_L_within ct_L_within : Value} {od_L_within an_L_within : Option Addr} {sl_L_within : Array (Option Value)}
    (a_L_within : PySem.W.nsIn K mainGlobals "_law_within" = some (some (.ref f_L_within))) (l_L_within : K.lookup f_L_within = some ⟨oc_L_within, od_L_within, .func (PySem.W.fnOf "_law_within" "_law_within" (defArgs s_L_within) (defBody s_L_within) (defScope s_L_within) .none kV_L_within dc_L_within pm_L_within an_L_within cd_L_within ct_L_within), sl_L_within⟩) (c_L_within : PySem.W.codeIn K cd_L_within "_law_within" = true) (q_L_within : PySem.W.keepIn K (.ref f_L_within) = true)
    {f_L_drawn : Addr} {oc_L_drawn kV_L_drawn dc_L_drawn pm_L_drawn cd_L_drawn ct_L_drawn : Value} {od_L_drawn an_L_drawn : Option Addr} {sl_L_drawn : Array (Option Value)}
    (a_L_drawn : PySem.W.nsIn K mainGlobals "_law_drawn" = some (some (.ref f_L_drawn))) (l_L_drawn : K.lookup f_L_drawn = some ⟨oc_L_drawn, od_L_drawn, .func (PySem.W.fnOf "_law_drawn" "_law_drawn" (defArgs s_L_drawn) (defBody s_L_drawn) (defScope s_L_drawn) .none kV_L_drawn dc_L_drawn pm_L_drawn an_L_drawn cd_L_drawn ct_L_drawn), sl_L_drawn⟩) (c_L_drawn : PySem.W.codeIn K cd_L_drawn "_law_drawn" = true) (q_L_drawn : PySem.W.keepIn K (.ref f_L_drawn) = true)
    {f_L_whole : Addr} {oc_L_whole kV_L_whole dc_L_whole pm_L_whole cd_L_whole ct_L_whole : Value} {od_L_whole an_L_whole : Option Addr} {sl_L_whole : Array (Option Value)}
    (a_L_whole : PySem.W.nsIn K mainGlobals "_law_whole" = some (some (.ref f_L_whole))) (l_L_whole : K.lookup f_L_whole = some ⟨oc_L_whole, od_L_whole, .func (PySem.W.fnOf "_law_whole" "_law_whole" (defArgs s_L_whole) (defBody s_L_whole) (defScope s_L_whole) .none kV_L_whole dc_L_whole pm_L_whole an_L_whole cd_L_whole ct_L_whole), sl_L_whole⟩) (c_L_whole : PySem.W.codeIn K cd_L_whole "_law_whole" = true) (q_L_whole : PySem.W.keepIn K (.ref f_L_whole) = true)
    {f_L_is_poly : Addr} {oc_L_is_poly kV_L_is_poly dc_L_is_poly pm_L_is_poly cd_L_is_poly ct_L_is_poly : Value} {od_L_is_poly an_L_is_poly : Option Addr} {sl_L_is_poly : Array (Option Value)}
    (a_L_is_poly : PySem.W.nsIn K mainGlobals "_law_is_poly" = some (some (.ref f_L_is_poly))) (l_L_is_poly : K.lookup f_L_is_poly = some ⟨oc_L_is_poly, od_L_is_poly, .func (PySem.W.fnOf "_law_is_poly" "_law_is_poly" (defArgs s_L_is_poly) (defBody s_L_is_poly) (defScope s_L_is_poly) .none kV_L_is_poly dc_L_is_poly pm_L_is_poly an_L_is_poly cd_L_is_poly ct_L_is_poly), sl_L_is_poly⟩) (c_L_is_poly : PySem.W.codeIn K cd_L_is_poly "_law_is_poly" = true) (q_L_is_poly : PySem.W.keepIn K (.ref f_L_is_poly) = true)
    {f_L_is_candidate : Addr} {oc_L_is_candidate kV_L_is_candidate dc_L_is_candidate pm_L_is_candidate cd_L_is_candidate ct_L_is_candidate : Value} {od_L_is_candidate an_L_is_candidate : Option Addr} {sl_L_is_candidate : Array (Option Value)}
    (a_L_is_candidate : PySem.W.nsIn K mainGlobals "_law_is_candidate" = some (some (.ref f_L_is_candidate))) (l_L_is_candidate : K.lookup f_L_is_candidate = some ⟨oc_L_is_candidate, od_L_is_candidate, .func (PySem.W.fnOf "_law_is_candidate" "_law_is_candidate" (defArgs s_L_is_candidate) (defBody s_L_is_candidate) (defScope s_L_is_candidate) .none kV_L_is_candidate dc_L_is_candidate pm_L_is_candidate an_L_is_candidate cd_L_is_candidate ct_L_is_candidate), sl_L_is_candidate⟩) (c_L_is_candidate : PySem.W.codeIn K cd_L_is_candidate "_law_is_candidate" = true) (q_L_is_candidate : PySem.W.keepIn K (.ref f_L_is_candidate) = true)
    {f_L_divisors : Addr} {oc_L_divisors kV_L_divisors dc_L_divisors pm_L_divisors cd_L_divisors ct_L_divisors : Value} {od_L_divisors an_L_divisors : Option Addr} {sl_L_divisors : Array (Option Value)}
    (a_L_divisors : PySem.W.nsIn K mainGlobals "_law_divisors" = some (some (.ref f_L_divisors))) (l_L_divisors : K.lookup f_L_divisors = some ⟨oc_L_divisors, od_L_divisors, .func (PySem.W.fnOf "_law_divisors" "_law_divisors" (defArgs s_L_divisors) (defBody s_L_divisors) (defScope s_L_divisors) .none kV_L_divisors dc_L_divisors pm_L_divisors an_L_divisors cd_L_divisors ct_L_divisors), sl_L_divisors⟩) (c_L_divisors : PySem.W.codeIn K cd_L_divisors "_law_divisors" = true) (q_L_divisors : PySem.W.keepIn K (.ref f_L_divisors) = true)
    {f_L_right : Addr} {oc_L_right kV_L_right dc_L_right pm_L_right cd_L_right ct_L_right : Value} {od_L_right an_L_right : Option Addr} {sl_L_right : Array (Option Value)}
    (a_L_right : PySem.W.nsIn K mainGlobals "_law_right" = some (some (.ref f_L_right))) (l_L_right : K.lookup f_L_right = some ⟨oc_L_right, od_L_right, .func (PySem.W.fnOf "_law_right" "_law_right" (defArgs s_L_right) (defBody s_L_right) (defScope s_L_right) .none kV_L_right dc_L_right pm_L_right an_L_right cd_L_right ct_L_right), sl_L_right⟩) (c_L_right : PySem.W.codeIn K cd_L_right "_law_right" = true) (q_L_right : PySem.W.keepIn K (.ref f_L_right) = true)
    {f_law : Addr} {oc_law kV_law dc_law pm_law cd_law ct_law : Value} {od_law an_law : Option Addr} {sl_law : Array (Option Value)}
    (a_law : PySem.W.nsIn K mainGlobals "law" = some (some (.ref f_law))) (l_law : K.lookup f_law = some ⟨oc_law, od_law, .func (PySem.W.fnOf "law" "law" (defArgs s_law) (defBody s_law) (defScope s_law) .none kV_law dc_law pm_law an_law cd_law ct_law), sl_law⟩) (c_law : PySem.W.codeIn K cd_law "law" = true) (q_law : PySem.W.keepIn K (.ref f_law) = true)
    (b_abs : PySem.W.nsIn K mainGlobals "abs" = some none)
    (b_all : PySem.W.nsIn K mainGlobals "all" = some none)
    (b_bool : PySem.W.nsIn K mainGlobals "bool" = some none)
    (b_enumerate : PySem.W.nsIn K mainGlobals "enumerate" = some none)
    (b_int : PySem.W.nsIn K mainGlobals "int" = some none)
    (b_isinstance : PySem.W.nsIn K mainGlobals "isinstance" = some none)
    (b_len : PySem.W.nsIn K mainGlobals "len" = some none)
    (b_list : PySem.W.nsIn K mainGlobals "list" = some none)
    (b_max : PySem.W.nsIn K mainGlobals "max" = some none)
    (b_range : PySem.W.nsIn K mainGlobals "range" = some none)
    (b_reversed : PySem.W.nsIn K mainGlobals "reversed" = some none)
    (b_tuple : PySem.W.nsIn K mainGlobals "tuple" = some none)
    {x_ONE_0 : Addr} {od_x_ONE_0 : Option Addr} {n_x_ONE_0 : Nat} {sl_x_ONE_0 : Array (Option Value)} {x_ONE_1 : Addr} {od_x_ONE_1 : Option Addr} {n_x_ONE_1 : Nat} {sl_x_ONE_1 : Array (Option Value)} {t_ONE_2 : Tok} (l_ONE_1 : K.lookup x_ONE_1 = some ⟨.type "tuple", od_x_ONE_1, .seq #[.int 1 t_ONE_2] n_x_ONE_1, sl_x_ONE_1⟩) {t_ONE_3 : Tok} (l_ONE_0 : K.lookup x_ONE_0 = some ⟨.type "tuple", od_x_ONE_0, .seq #[.ref x_ONE_1, .int 1 t_ONE_3] n_x_ONE_0, sl_x_ONE_0⟩) (n_ONE : PySem.W.nsIn K mainGlobals "ONE" = some (some (.ref x_ONE_0)))
    : ∃ fd : FuncData, (∀ (s : Shared) (v : Value), BindsTo s fd ⟨[v], []⟩ [("_law_script", v)]) ∧ ∀ base : Heap, K.In base → base.Ns mainGlobals mg → FnOk l.prog w K mg base CX0 7 fa fd ["_law_script"] (spLaw K) := by
  have e := hfa.symm.trans (PySem.W.mg_of X G a_law)
  cases e
  have z_abs := PySem.W.mg_none_of X G b_abs
  have z_all := PySem.W.mg_none_of X G b_all
  have z_bool := PySem.W.mg_none_of X G b_bool
  have z_enumerate := PySem.W.mg_none_of X G b_enumerate
  have z_int := PySem.W.mg_none_of X G b_int
  have z_isinstance := PySem.W.mg_none_of X G b_isinstance
  have z_len := PySem.W.mg_none_of X G b_len
  have z_list := PySem.W.mg_none_of X G b_list
  have z_max := PySem.W.mg_none_of X G b_max
  have z_range := PySem.W.mg_none_of X G b_range
  have z_reversed := PySem.W.mg_none_of X G b_reversed
  have z_tuple := PySem.W.mg_none_of X G b_tuple
  have C_ONE : ConIn K mg "ONE" c_ONE := ⟨_, (.ref x_ONE_0 : V), PySem.W.mg_of X G n_ONE, (rel_ref x_ONE_0), fun _ _ => (.tup (.inr ⟨_, _, _, l_ONE_0, rfl, rfl, sz_ok (by simp), (.cons (rel_ref x_ONE_1) (.cons (rel_int 1 t_ONE_3) .nil))⟩) (.cons (.tup (.inr ⟨_, _, _, l_ONE_1, rfl, rfl, sz_ok (by simp), (.cons (rel_int 1 t_ONE_2) .nil)⟩) (.cons (.int _) .nil)) (.cons (.int _) .nil)))⟩
  have D_common_part : DefIn K mg "common_part" s_common_part [("one" : Str), ("other" : Str)] := defIn_mk X G a_common_part l_common_part c_common_part q_common_part fun _ _ _ _ _ _ us hl => match us, hl with | [_, _], _ => rfl
  have D_fraction : DefIn K mg "fraction" s_fraction [("top" : Str), ("bottom" : Str)] := defIn_mk X G a_fraction l_fraction c_fraction q_fraction fun _ _ _ _ _ _ us hl => match us, hl with | [_, _], _ => rfl
  have D_taken : DefIn K mg "taken" s_taken [("one" : Str), ("other" : Str)] := defIn_mk X G a_taken l_taken c_taken q_taken fun _ _ _ _ _ _ us hl => match us, hl with | [_, _], _ => rfl
  have D_divided : DefIn K mg "divided" s_divided [("one" : Str), ("other" : Str)] := defIn_mk X G a_divided l_divided c_divided q_divided fun _ _ _ _ _ _ us hl => match us, hl with | [_, _], _ => rfl
  have D_over : DefIn K mg "over" s_over [("tops" : Str), ("bottom" : Str)] := defIn_mk X G a_over l_over c_over q_over fun _ _ _ _ _ _ us hl => match us, hl with | [_, _], _ => rfl
  have D_poly : DefIn K mg "poly" s_poly [("some" : Str)] := defIn_mk X G a_poly l_poly c_poly q_poly fun _ _ _ _ _ _ us hl => match us, hl with | [_], _ => rfl
  have D_fraction_at : DefIn K mg "fraction_at" s_fraction_at [("p" : Str), ("k" : Str)] := defIn_mk X G a_fraction_at l_fraction_at c_fraction_at q_fraction_at fun _ _ _ _ _ _ us hl => match us, hl with | [_, _], _ => rfl
  have D_degree : DefIn K mg "degree" s_degree [("p" : Str)] := defIn_mk X G a_degree l_degree c_degree q_degree fun _ _ _ _ _ _ us hl => match us, hl with | [_], _ => rfl
  have D_lead : DefIn K mg "lead" s_lead [("p" : Str)] := defIn_mk X G a_lead l_lead c_lead q_lead fun _ _ _ _ _ _ us hl => match us, hl with | [_], _ => rfl
  have D_plus : DefIn K mg "plus" s_plus [("p" : Str), ("other" : Str)] := defIn_mk X G a_plus l_plus c_plus q_plus fun _ _ _ _ _ _ us hl => match us, hl with | [_, _], _ => rfl
  have D_times : DefIn K mg "times" s_times [("p" : Str), ("other" : Str)] := defIn_mk X G a_times l_times c_times q_times fun _ _ _ _ _ _ us hl => match us, hl with | [_, _], _ => rfl
  have D_power : DefIn K mg "power" s_power [("p" : Str), ("k" : Str)] := defIn_mk X G a_power l_power c_power q_power fun _ _ _ _ _ _ us hl => match us, hl with | [_, _], _ => rfl
  have D_one_power : DefIn K mg "one_power" s_one_power [("r" : Str), ("k" : Str)] := defIn_mk X G a_one_power l_one_power c_one_power q_one_power fun _ _ _ _ _ _ us hl => match us, hl with | [_, _], _ => rfl
  have D_candidate : DefIn K mg "candidate" s_candidate [("f" : Str), ("s" : Str)] := defIn_mk X G a_candidate l_candidate c_candidate q_candidate fun _ _ _ _ _ _ us hl => match us, hl with | [_, _], _ => rfl
  have D_L_flow : DefIn K mg "_law_flow" s_L_flow [("_law_script" : Str)] := defIn_mk X G a_L_flow l_L_flow c_L_flow q_L_flow fun _ _ _ _ _ _ us hl => match us, hl with | [_], _ => rfl
  have D_L_pick : DefIn K mg "_law_pick" s_L_pick [("_law_flow_here" : Str), ("_law_many" : Str)] := defIn_mk X G a_L_pick l_L_pick c_L_pick q_L_pick fun _ _ _ _ _ _ us hl => match us, hl with | [_, _], _ => rfl
  have D_L_common : DefIn K mg "_law_common" s_L_common [("_law_a" : Str), ("_law_b" : Str)] := defIn_mk X G a_L_common l_L_common c_L_common q_L_common fun _ _ _ _ _ _ us hl => match us, hl with | [_, _], _ => rfl
  have D_L_fraction : DefIn K mg "_law_fraction" s_L_fraction [("_law_top" : Str), ("_law_bottom" : Str)] := defIn_mk X G a_L_fraction l_L_fraction c_L_fraction q_L_fraction fun _ _ _ _ _ _ us hl => match us, hl with | [_, _], _ => rfl
  have D_L_poly : DefIn K mg "_law_poly" s_L_poly [("_law_tops" : Str), ("_law_bottom" : Str)] := defIn_mk X G a_L_poly l_L_poly c_L_poly q_L_poly fun _ _ _ _ _ _ us hl => match us, hl with | [_, _], _ => rfl
  have D_L_sum : DefIn K mg "_law_sum" s_L_sum [("_law_p" : Str), ("_law_q" : Str)] := defIn_mk X G a_L_sum l_L_sum c_L_sum q_L_sum fun _ _ _ _ _ _ us hl => match us, hl with | [_, _], _ => rfl
  have D_L_times : DefIn K mg "_law_times" s_L_times [("_law_p" : Str), ("_law_q" : Str)] := defIn_mk X G a_L_times l_L_times c_L_times q_L_times fun _ _ _ _ _ _ us hl => match us, hl with | [_, _], _ => rfl
  have D_L_of : DefIn K mg "_law_of" s_L_of [("_law_p" : Str), ("_law_q" : Str)] := defIn_mk X G a_L_of l_L_of c_L_of q_L_of fun _ _ _ _ _ _ us hl => match us, hl with | [_, _], _ => rfl
  have D_L_straight : DefIn K mg "_law_straight" s_L_straight [("_law_a" : Str), ("_law_b" : Str)] := defIn_mk X G a_L_straight l_L_straight c_L_straight q_L_straight fun _ _ _ _ _ _ us hl => match us, hl with | [_, _], _ => rfl
  have D_L_number : DefIn K mg "_law_number" s_L_number [("_law_flow_here" : Str), ("_law_most" : Str)] := defIn_mk X G a_L_number l_L_number c_L_number q_L_number fun _ _ _ _ _ _ us hl => match us, hl with | [_, _], _ => rfl
  have D_L_any_fraction : DefIn K mg "_law_any_fraction" s_L_any_fraction [("_law_flow_here" : Str), ("_law_most" : Str)] := defIn_mk X G a_L_any_fraction l_L_any_fraction c_L_any_fraction q_L_any_fraction fun _ _ _ _ _ _ us hl => match us, hl with | [_, _], _ => rfl
  have D_L_any_poly : DefIn K mg "_law_any_poly" s_L_any_poly [("_law_flow_here" : Str), ("_law_many" : Str), ("_law_most" : Str)] := defIn_mk X G a_L_any_poly l_L_any_poly c_L_any_poly q_L_any_poly fun _ _ _ _ _ _ us hl => match us, hl with | [_, _, _], _ => rfl
  have D_L_neat_poly : DefIn K mg "_law_neat_poly" s_L_neat_poly [("_law_flow_here" : Str), ("_law_many" : Str), ("_law_most" : Str)] := defIn_mk X G a_L_neat_poly l_L_neat_poly c_L_neat_poly q_L_neat_poly fun _ _ _ _ _ _ us hl => match us, hl with | [_, _, _], _ => rfl
  have D_L_any_straight : DefIn K mg "_law_any_straight" s_L_any_straight [("_law_flow_here" : Str), ("_law_most" : Str)] := defIn_mk X G a_L_any_straight l_L_any_straight c_L_any_straight q_L_any_straight fun _ _ _ _ _ _ us hl => match us, hl with | [_, _], _ => rfl
  have D_L_turning : DefIn K mg "_law_turning" s_L_turning [("_law_n" : Str), ("_law_a" : Str)] := defIn_mk X G a_L_turning l_L_turning c_L_turning q_L_turning fun _ _ _ _ _ _ us hl => match us, hl with | [_, _], _ => rfl
  have D_L_together : DefIn K mg "_law_together" s_L_together [("_law_chain" : Str)] := defIn_mk X G a_L_together l_L_together c_L_together q_L_together fun _ _ _ _ _ _ us hl => match us, hl with | [_], _ => rfl
  have D_L_power : DefIn K mg "_law_power" s_L_power [("_law_p" : Str), ("_law_k" : Str)] := defIn_mk X G a_L_power l_L_power c_L_power q_L_power fun _ _ _ _ _ _ us hl => match us, hl with | [_, _], _ => rfl
  have D_L_at : DefIn K mg "_law_at" s_L_at [("_law_p" : Str), ("_law_k" : Str)] := defIn_mk X G a_L_at l_L_at c_L_at q_L_at fun _ _ _ _ _ _ us hl => match us, hl with | [_, _], _ => rfl
  have D_L_within : DefIn K mg "_law_within" s_L_within [("_law_p" : Str)] := defIn_mk X G a_L_within l_L_within c_L_within q_L_within fun _ _ _ _ _ _ us hl => match us, hl with | [_], _ => rfl
  have D_L_drawn : DefIn K mg "_law_drawn" s_L_drawn [("_law_flow_here" : Str)] := defIn_mk X G a_L_drawn l_L_drawn c_L_drawn q_L_drawn fun _ _ _ _ _ _ us hl => match us, hl with | [_], _ => rfl
  have D_L_whole : DefIn K mg "_law_whole" s_L_whole [("_law_thing" : Str)] := defIn_mk X G a_L_whole l_L_whole c_L_whole q_L_whole fun _ _ _ _ _ _ us hl => match us, hl with | [_], _ => rfl
  have D_L_is_poly : DefIn K mg "_law_is_poly" s_L_is_poly [("_law_thing" : Str)] := defIn_mk X G a_L_is_poly l_L_is_poly c_L_is_poly q_L_is_poly fun _ _ _ _ _ _ us hl => match us, hl with | [_], _ => rfl
  have D_L_is_candidate : DefIn K mg "_law_is_candidate" s_L_is_candidate [("_law_f" : Str), ("_law_s" : Str), ("_law_h" : Str)] := defIn_mk X G a_L_is_candidate l_L_is_candidate c_L_is_candidate q_L_is_candidate fun _ _ _ _ _ _ us hl => match us, hl with | [_, _, _], _ => rfl
  have D_L_divisors : DefIn K mg "_law_divisors" s_L_divisors [("_law_f" : Str)] := defIn_mk X G a_L_divisors l_L_divisors c_L_divisors q_L_divisors fun _ _ _ _ _ _ us hl => match us, hl with | [_], _ => rfl
  have D_L_right : DefIn K mg "_law_right" s_L_right [("_law_f" : Str)] := defIn_mk X G a_L_right l_L_right c_L_right q_L_right fun _ _ _ _ _ _ us hl => match us, hl with | [_], _ => rfl
  refine ⟨PySem.W.fnOf "law" "law" (defArgs s_law) (defBody s_law) (defScope s_law) .none kV_law dc_law pm_law an_law cd_law ct_law, fun s v => .of_eq rfl, fun base _ _ => ?_⟩
  have k_common_part := k_common_part (P := l.prog) (w := w) (base := base) z_abs D_common_part
  have k_fraction := k_fraction (P := l.prog) (w := w) (base := base) k_common_part D_fraction
  have k_taken := k_taken (P := l.prog) (w := w) (base := base) k_fraction D_taken
  have k_divided := k_divided (P := l.prog) (w := w) (base := base) k_fraction D_divided
  have k_over := k_over (P := l.prog) (w := w) (base := base) z_len z_tuple k_common_part D_over
  have k_poly := k_poly (P := l.prog) (w := w) (base := base) k_over k_common_part D_poly
  have k_fraction_at := k_fraction_at (P := l.prog) (w := w) (base := base) z_len k_fraction D_fraction_at
  have k_degree := k_degree (P := l.prog) (w := w) (base := base) z_len D_degree
  have k_lead := k_lead (P := l.prog) (w := w) (base := base) z_len k_fraction_at k_degree D_lead
  have k_plus := k_plus (P := l.prog) (w := w) (base := base) z_enumerate z_len z_max k_over D_plus
  have k_times := k_times (P := l.prog) (w := w) (base := base) z_enumerate z_len k_over D_times
  have k_power := k_power (P := l.prog) (w := w) (base := base) z_range k_times C_ONE D_power
  have k_one_power := k_one_power (P := l.prog) (w := w) (base := base) k_poly D_one_power
  have k_candidate := k_candidate (P := l.prog) (w := w) (base := base) z_range k_plus k_one_power k_divided k_taken k_fraction_at k_power k_lead k_degree D_candidate
  have k_L_flow := k_L_flow (P := l.prog) (w := w) (base := base) z_list D_L_flow
  have k_L_pick := k_L_pick (P := l.prog) (w := w) (base := base) z_len D_L_pick
  have k_L_common := k_L_common (P := l.prog) (w := w) (base := base) z_abs D_L_common
  have k_L_fraction := k_L_fraction (P := l.prog) (w := w) (base := base) k_L_common D_L_fraction
  have k_L_poly := k_L_poly (P := l.prog) (w := w) (base := base) z_len z_list z_tuple k_L_common D_L_poly
  have k_L_sum := k_L_sum (P := l.prog) (w := w) (base := base) z_enumerate z_len z_max k_L_poly D_L_sum
  have k_L_times := k_L_times (P := l.prog) (w := w) (base := base) z_enumerate z_len k_L_poly D_L_times
  have k_L_of := k_L_of (P := l.prog) (w := w) (base := base) z_reversed k_L_sum k_L_poly k_L_times D_L_of
  have k_L_straight := k_L_straight (P := l.prog) (w := w) (base := base) k_L_poly D_L_straight
  have k_L_number := k_L_number (P := l.prog) (w := w) (base := base) k_L_pick D_L_number
  have k_L_any_fraction := k_L_any_fraction (P := l.prog) (w := w) (base := base) k_L_fraction k_L_pick k_L_number D_L_any_fraction
  have k_L_any_poly := k_L_any_poly (P := l.prog) (w := w) (base := base) z_int z_range k_L_poly k_L_pick k_L_number D_L_any_poly
  have k_L_neat_poly := k_L_neat_poly (P := l.prog) (w := w) (base := base) z_int z_range k_L_poly k_L_number k_L_pick D_L_neat_poly
  have k_L_any_straight := k_L_any_straight (P := l.prog) (w := w) (base := base) k_L_straight k_L_any_fraction k_L_fraction k_L_pick D_L_any_straight
  have k_L_turning := k_L_turning (P := l.prog) (w := w) (base := base) z_range k_L_sum k_L_times k_L_poly D_L_turning
  have k_L_together := k_L_together (P := l.prog) (w := w) (base := base) z_reversed k_L_of D_L_together
  have k_L_power := k_L_power (P := l.prog) (w := w) (base := base) z_range k_L_times D_L_power
  have k_L_at := k_L_at (P := l.prog) (w := w) (base := base) z_len k_L_fraction D_L_at
  have k_L_within := k_L_within (P := l.prog) (w := w) (base := base) z_abs z_all D_L_within
  have k_L_drawn := k_L_drawn (P := l.prog) (w := w) (base := base) z_int z_range k_L_within k_L_poly k_L_of k_L_any_straight k_L_turning k_L_number k_L_pick k_L_together k_L_any_poly k_L_neat_poly k_L_sum D_L_drawn
  have k_L_whole := k_L_whole (P := l.prog) (w := w) (base := base) z_bool z_int z_isinstance D_L_whole
  have k_L_is_poly := k_L_is_poly (P := l.prog) (w := w) (base := base) z_all z_isinstance z_len z_tuple k_L_poly k_L_whole D_L_is_poly
  have k_L_is_candidate := k_L_is_candidate (P := l.prog) (w := w) (base := base) z_all z_len z_range k_L_at k_L_times k_L_poly k_L_power k_L_is_poly D_L_is_candidate
  have k_L_divisors := k_L_divisors (P := l.prog) (w := w) (base := base) z_len z_range D_L_divisors
  have k_L_right := k_L_right (P := l.prog) (w := w) (base := base) z_all k_L_divisors k_L_is_candidate k_candidate D_L_right
  exact ok_law z_all z_range k_L_right k_L_drawn k_L_flow (fun_mk (st := s_law) l_law c_law q_law) hsem
end K28

open PySem PySem.W PyProof.Rows
set_option maxHeartbeats 0 in
theorem PySem.Challenge.cw_nestwright_k28_candidates_holds : PySem.Challenge.rw_nestwright_k28_candidates.Holds := by
  w_on; o_law; k_head; (case hw => w_witness2)
  k_fill
  refine L2.walk_of (l := PySem.Challenge.rw_nestwright_k28_candidates) (n := 63) (k := 7) (x := "_law_script") (CX := fun _ => L2.CX0) (sp := fun w => NW.spLaw _) rfl (by decide) rfl ⟨rfl, by decide, by decide⟩ (fun w h Y => PySem.W.kIn_of Y) ?F (fun _ _ a ns hl _ hS => ⟨a, ns, rfl, hS, hl, fun _ => rfl⟩) (fun _ _ _ _ _ h => h)
  case F =>
    intro w mg fa h KX G hmg
    refine' K28.all_mk KX G hmg K28.hsem ?a_common_part ?l_common_part ?c_common_part ?q_common_part ?a_fraction ?l_fraction ?c_fraction ?q_fraction ?a_taken ?l_taken ?c_taken ?q_taken ?a_divided ?l_divided ?c_divided ?q_divided ?a_over ?l_over ?c_over ?q_over ?a_poly ?l_poly ?c_poly ?q_poly ?a_fraction_at ?l_fraction_at ?c_fraction_at ?q_fraction_at ?a_degree ?l_degree ?c_degree ?q_degree ?a_lead ?l_lead ?c_lead ?q_lead ?a_plus ?l_plus ?c_plus ?q_plus ?a_times ?l_times ?c_times ?q_times ?a_power ?l_power ?c_power ?q_power ?a_one_power ?l_one_power ?c_one_power ?q_one_power ?a_candidate ?l_candidate ?c_candidate ?q_candidate ?a_L_flow ?l_L_flow ?c_L_flow ?q_L_flow ?a_L_pick ?l_L_pick ?c_L_pick ?q_L_pick ?a_L_common ?l_L_common ?c_L_common ?q_L_common ?a_L_fraction ?l_L_fraction ?c_L_fraction ?q_L_fraction ?a_L_poly ?l_L_poly ?c_L_poly ?q_L_poly ?a_L_sum ?l_L_sum ?c_L_sum ?q_L_sum ?a_L_times ?l_L_times ?c_L_times ?q_L_times ?a_L_of ?l_L_of ?c_L_of ?q_L_of ?a_L_straight ?l_L_straight ?c_L_straight ?q_L_straight ?a_L_number ?l_L_number ?c_L_number ?q_L_number ?a_L_any_fraction ?l_L_any_fraction ?c_L_any_fraction ?q_L_any_fraction ?a_L_any_poly ?l_L_any_poly ?c_L_any_poly ?q_L_any_poly ?a_L_neat_poly ?l_L_neat_poly ?c_L_neat_poly ?q_L_neat_poly ?a_L_any_straight ?l_L_any_straight ?c_L_any_straight ?q_L_any_straight ?a_L_turning ?l_L_turning ?c_L_turning ?q_L_turning ?a_L_together ?l_L_together ?c_L_together ?q_L_together ?a_L_power ?l_L_power ?c_L_power ?q_L_power ?a_L_at ?l_L_at ?c_L_at ?q_L_at ?a_L_within ?l_L_within ?c_L_within ?q_L_within ?a_L_drawn ?l_L_drawn ?c_L_drawn ?q_L_drawn ?a_L_whole ?l_L_whole ?c_L_whole ?q_L_whole ?a_L_is_poly ?l_L_is_poly ?c_L_is_poly ?q_L_is_poly ?a_L_is_candidate ?l_L_is_candidate ?c_L_is_candidate ?q_L_is_candidate ?a_L_divisors ?l_L_divisors ?c_L_divisors ?q_L_divisors ?a_L_right ?l_L_right ?c_L_right ?q_L_right ?a_law ?l_law ?c_law ?q_law ?b_abs ?b_all ?b_bool ?b_enumerate ?b_int ?b_isinstance ?b_len ?b_list ?b_max ?b_range ?b_reversed ?b_tuple ?l_ONE_1 ?l_ONE_0 ?n_ONE
    (case a_common_part => k_is)
    (case l_common_part => k_is)
    (case c_common_part => k_is)
    (case q_common_part => k_is)
    (case a_fraction => k_is)
    (case l_fraction => k_is)
    (case c_fraction => k_is)
    (case q_fraction => k_is)
    (case a_taken => k_is)
    (case l_taken => k_is)
    (case c_taken => k_is)
    (case q_taken => k_is)
    (case a_divided => k_is)
    (case l_divided => k_is)
    (case c_divided => k_is)
    (case q_divided => k_is)
    (case a_over => k_is)
    (case l_over => k_is)
    (case c_over => k_is)
    (case q_over => k_is)
    (case a_poly => k_is)
    (case l_poly => k_is)
    (case c_poly => k_is)
    (case q_poly => k_is)
    (case a_fraction_at => k_is)
    (case l_fraction_at => k_is)
    (case c_fraction_at => k_is)
    (case q_fraction_at => k_is)
    (case a_degree => k_is)
    (case l_degree => k_is)
    (case c_degree => k_is)
    (case q_degree => k_is)
    (case a_lead => k_is)
    (case l_lead => k_is)
    (case c_lead => k_is)
    (case q_lead => k_is)
    (case a_plus => k_is)
    (case l_plus => k_is)
    (case c_plus => k_is)
    (case q_plus => k_is)
    (case a_times => k_is)
    (case l_times => k_is)
    (case c_times => k_is)
    (case q_times => k_is)
    (case a_power => k_is)
    (case l_power => k_is)
    (case c_power => k_is)
    (case q_power => k_is)
    (case a_one_power => k_is)
    (case l_one_power => k_is)
    (case c_one_power => k_is)
    (case q_one_power => k_is)
    (case a_candidate => k_is)
    (case l_candidate => k_is)
    (case c_candidate => k_is)
    (case q_candidate => k_is)
    (case a_L_flow => k_is)
    (case l_L_flow => k_is)
    (case c_L_flow => k_is)
    (case q_L_flow => k_is)
    (case a_L_pick => k_is)
    (case l_L_pick => k_is)
    (case c_L_pick => k_is)
    (case q_L_pick => k_is)
    (case a_L_common => k_is)
    (case l_L_common => k_is)
    (case c_L_common => k_is)
    (case q_L_common => k_is)
    (case a_L_fraction => k_is)
    (case l_L_fraction => k_is)
    (case c_L_fraction => k_is)
    (case q_L_fraction => k_is)
    (case a_L_poly => k_is)
    (case l_L_poly => k_is)
    (case c_L_poly => k_is)
    (case q_L_poly => k_is)
    (case a_L_sum => k_is)
    (case l_L_sum => k_is)
    (case c_L_sum => k_is)
    (case q_L_sum => k_is)
    (case a_L_times => k_is)
    (case l_L_times => k_is)
    (case c_L_times => k_is)
    (case q_L_times => k_is)
    (case a_L_of => k_is)
    (case l_L_of => k_is)
    (case c_L_of => k_is)
    (case q_L_of => k_is)
    (case a_L_straight => k_is)
    (case l_L_straight => k_is)
    (case c_L_straight => k_is)
    (case q_L_straight => k_is)
    (case a_L_number => k_is)
    (case l_L_number => k_is)
    (case c_L_number => k_is)
    (case q_L_number => k_is)
    (case a_L_any_fraction => k_is)
    (case l_L_any_fraction => k_is)
    (case c_L_any_fraction => k_is)
    (case q_L_any_fraction => k_is)
    (case a_L_any_poly => k_is)
    (case l_L_any_poly => k_is)
    (case c_L_any_poly => k_is)
    (case q_L_any_poly => k_is)
    (case a_L_neat_poly => k_is)
    (case l_L_neat_poly => k_is)
    (case c_L_neat_poly => k_is)
    (case q_L_neat_poly => k_is)
    (case a_L_any_straight => k_is)
    (case l_L_any_straight => k_is)
    (case c_L_any_straight => k_is)
    (case q_L_any_straight => k_is)
    (case a_L_turning => k_is)
    (case l_L_turning => k_is)
    (case c_L_turning => k_is)
    (case q_L_turning => k_is)
    (case a_L_together => k_is)
    (case l_L_together => k_is)
    (case c_L_together => k_is)
    (case q_L_together => k_is)
    (case a_L_power => k_is)
    (case l_L_power => k_is)
    (case c_L_power => k_is)
    (case q_L_power => k_is)
    (case a_L_at => k_is)
    (case l_L_at => k_is)
    (case c_L_at => k_is)
    (case q_L_at => k_is)
    (case a_L_within => k_is)
    (case l_L_within => k_is)
    (case c_L_within => k_is)
    (case q_L_within => k_is)
    (case a_L_drawn => k_is)
    (case l_L_drawn => k_is)
    (case c_L_drawn => k_is)
    (case q_L_drawn => k_is)
    (case a_L_whole => k_is)
    (case l_L_whole => k_is)
    (case c_L_whole => k_is)
    (case q_L_whole => k_is)
    (case a_L_is_poly => k_is)
    (case l_L_is_poly => k_is)
    (case c_L_is_poly => k_is)
    (case q_L_is_poly => k_is)
    (case a_L_is_candidate => k_is)
    (case l_L_is_candidate => k_is)
    (case c_L_is_candidate => k_is)
    (case q_L_is_candidate => k_is)
    (case a_L_divisors => k_is)
    (case l_L_divisors => k_is)
    (case c_L_divisors => k_is)
    (case q_L_divisors => k_is)
    (case a_L_right => k_is)
    (case l_L_right => k_is)
    (case c_L_right => k_is)
    (case q_L_right => k_is)
    (case a_law => k_is)
    (case l_law => k_is)
    (case c_law => k_is)
    (case q_law => k_is)
    (case b_abs => k_is)
    (case b_all => k_is)
    (case b_bool => k_is)
    (case b_enumerate => k_is)
    (case b_int => k_is)
    (case b_isinstance => k_is)
    (case b_len => k_is)
    (case b_list => k_is)
    (case b_max => k_is)
    (case b_range => k_is)
    (case b_reversed => k_is)
    (case b_tuple => k_is)
    (case n_ONE => k_is)
    (case l_ONE_0 => k_is)
    (case l_ONE_1 => k_is)

